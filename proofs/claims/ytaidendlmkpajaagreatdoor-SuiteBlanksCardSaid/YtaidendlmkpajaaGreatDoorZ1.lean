/-
  Operation by operation: cells that are written.
-/
import Derived.Deep.AppendSrc
import Derived.Great.BuildSlice
import Derived.Carry
import Derived.MapKept
import Derived.Scope
import Derived.Laws.Externs
import Derived.Lib.Overlaps
import Derived.Recover
import Derived.Test.YtaidendlmkpajaaGreatDoorZ0

set_option linter.unusedSimpArgs false
set_option linter.unusedVariables false
namespace Go.Zev
open Go
section
variable {P : Program} {G : Bad} {h : Heap} {w : World} {φ : Phi} {id : Nat} {o : Oper} {e : Operand → Value} {ρ : Operand → AV} {bad : Bad}
theorem one_of {x : AV} {v : Value} (h1 : AV.one x = true) (hv : VRep w φ bad x v) : v.oneCell' = true := by
 cases x <;> first | (cases h1; done) | skip
 all_goals (rw [VRep] at hv)
 case fp => rw [FRep] at hv; obtain ⟨b, off, rfl, _⟩ := hv; rfl
 case fs => rw [FRep] at hv; obtain ⟨a, n, rfl, _⟩ := hv; rfl
 case s => obtain ⟨q, rfl, _⟩ := hv; rfl
 case xi => obtain ⟨_, rfl, _⟩ := hv; rfl
 case p => obtain ⟨_, _, _, _, rfl⟩ := hv; rfl
 case es => obtain ⟨_, rfl⟩ := hv; rfl
 case sl => obtain ⟨_, _, _, _, _, rfl, _⟩ := hv; rfl
 case mp => obtain ⟨_, _, _, _, rfl⟩ := hv; rfl
 case fn => obtain ⟨_, _, rfl, _⟩ := hv; rfl
 case ifc => obtain ⟨_, rfl, _⟩ := hv; rfl
 case it => obtain ⟨_, _, _, _, rfl⟩ := hv; rfl
 all_goals (subst hv; rfl)
theorem ones_of [Env] {xs : List AV} {vs : List Value} (h1 : AV.ones xs = true) (hv : VReps w φ bad xs vs) : ∀ v ∈ vs, v.oneCell' = true := by
 unfold AV.ones at h1
 rw [lall_eq] at h1
 induction xs generalizing vs with
 | nil => rw [VReps] at hv; subst hv; intro v hm; cases hm
 | cons x xs ih =>
  rw [VReps] at hv
  obtain ⟨u, us, rfl, h3, h4⟩ := hv
  rw [List.all_cons, Bool.and_eq_true] at h1
  intro v hm
  cases hm with
  | head => exact one_of h1.1 h3
  | tail _ hm => exact ih h1.2 h4 v hm
theorem ext_setRow (O : Bad) {cb : Nat} {c c' : Array Value} {ty : TypeId} (hw : w.heap[cb]? = some (.cells c ty (0, 0))) (ho : O cb) : Ext O w (w.setRow cb c') :=
 ⟨rfl, rfl, rfl, by simp, fun k hk hn => setRow_other w cb k c' (fun e => hn (e ▸ ho)), fun a _ => by
  unfold World.frozen?
  by_cases he : a.block = cb
  ·rw [he, setRow_heap w cb c c' ty (0, 0) hw, hw]
  ·rw [setRow_other w cb a.block c' he]⟩
theorem turn_set [Env] (hr : HRel G h w φ) {b cb sz n : Nat} {el el' : List (List AV)} {c c' : Array Value} {ty : TypeId} (hraw : h.raw b = .cells sz el) (hφ : φ b = some (cb, sz, n))
  (hw : w.heap[cb]? = some (.cells c ty (0, 0))) (hc' : c'.size = n) (hsz : el'.length * sz ≤ n)
  (hel : ∀ (i : Nat) (e : List AV), el'[i]? = some e → e.length = sz ∧ ∀ (j : Nat) (y : AV), e[j]? = some y → ∃ u, c'[i * sz + j]? = some u ∧ V w φ G h y u) :
  Turn G h w φ id (h.set b (.cells sz el')) (w.setRow cb c') φ := by
 have hne : h.raw b ≠ .none := by rw [hraw]; intro e; cases e
 have hcap := Heap.raw_cap hne
 have hraw' : ∀ k, (h.set b (.cells sz el')).raw k = if k = b then .cells sz el' else h.raw k := by
  intro k
  rw [Heap.raw_set]
  by_cases e : k = b
  ·rw [if_pos ⟨e, hcap⟩, if_pos e]
  ·rw [if_neg (fun x => e x.1), if_neg e]
 have hn' : ∀ k, (h.set b (.cells sz el')).raw k ≠ .none → h.raw k ≠ .none := by
  intro k hk
  rw [hraw'] at hk
  by_cases e : k = b
  ·rw [e]; exact hne
  ·rw [if_neg e] at hk; exact hk
 have hO : Own h φ cb := ⟨b, sz, n, hne, hφ⟩
 have hown : ∀ k, Own (h.set b (.cells sz el')) φ k → Own h φ k := by
  rintro k ⟨b', s', n', h1, h2⟩
  exact ⟨b', s', n', hn' _ h1, h2⟩
 have hext : Ext (Own h φ) w (w.setRow cb c') := ext_setRow _ hw hO
 have hgo : Goes w (BadOf G h φ) (w.setRow cb c') (BadOf G (h.set b (.cells sz el')) φ) := hext.goes (fun k hk => .inr hk) (fun k _ hb => hb.imp (fun x => x) (hown k))
 refine ⟨⟨?_, fun b' hb' => hr.has b' (hn' _ hb'), fun b' hb' => by rw [Heap.next_set]; exact hr.lt b' hb', fun k hk => by rw [setRow_size]; exact hr.gOld k hk, ?_, hr.pins hext fun _ q => q⟩, PhiLe.refl _, fun _ _ _ => rfl, hext, fun k _ => hown k, by rw [Heap.next_set]; exact Nat.le_refl _, Heap.win_set _ _ _⟩
 ·intro b' cb' s' n' hb' hφ'
  obtain ⟨h1, h2, h3⟩ := hr.blk b' cb' s' n' (hn' _ hb') hφ'
  refine ⟨h1, by rw [setRow_size]; exact h2, ?_⟩
  rw [hraw']
  by_cases e : b' = b
  ·subst e
   rw [if_pos rfl]
   rw [hφ] at hφ'
   injection hφ' with e1; injection e1 with e1 e2; injection e2 with e2 e3
   subst e1 e2 e3
   refine ⟨rfl, c', ty, setRow_heap w _ c c' ty _ hw, hc', hsz, fun i e he => ⟨(hel i e he).1, fun j y hy => ?_⟩⟩
   obtain ⟨u, h4, h5⟩ := (hel i e he).2 j y hy
   exact ⟨u, h4, VRep.mono hgo (PhiLe.refl _) _ _ h5⟩
  ·rw [if_neg e]
   refine h3.mono hgo (PhiLe.refl _) (setRow_other w cb cb' c' fun e2 => e ?_)
   subst e2
   exact hr.inj b' b cb' s' n' sz n (hn' _ hb') hne hφ' hφ
 ·intro b1 b2 cb' s n s' n' h1 h2 h3 h4
  exact hr.inj b1 b2 cb' s n s' n' (hn' _ h1) (hn' _ h2) h3 h4
theorem get_splice (c : Array Value) (vs : List Value) (a k : Nat) (hf : a + vs.length ≤ c.size) :
  (c.toList.take a ++ vs ++ c.toList.drop (a + vs.length)).toArray[k]? = if a ≤ k ∧ k < a + vs.length then vs[k - a]? else c[k]? := by
 rw [List.getElem?_toArray]
 have hl : (c.toList.take a).length = a := by rw [List.length_take]; simp; omega
 rw [List.append_assoc, List.getElem?_append, hl]
 by_cases h1 : k < a
 ·rw [if_pos h1, if_neg (by omega), List.getElem?_take, if_pos h1]; simp
 ·rw [if_neg h1, List.getElem?_append]
  by_cases h2 : k - a < vs.length
  ·rw [if_pos h2, if_pos (by omega)]
  ·rw [if_neg h2, if_neg (by omega), List.getElem?_drop]
   rw [show a + vs.length + (k - a - vs.length) = k by omega]; simp
theorem size_splice (c : Array Value) (vs : List Value) (a : Nat) (hf : a + vs.length ≤ c.size) : (c.toList.take a ++ vs ++ c.toList.drop (a + vs.length)).toArray.size = c.size := by
 simp; omega
theorem place_inj {sz i j i' j' : Nat} (hj : j < sz) (hj' : j' < sz) (e : i * sz + j = i' * sz + j') : i = i' ∧ j = j' := by
 have h1 : (i * sz + j) / sz = i := by rw [Nat.mul_comm, Nat.mul_add_div (by omega), Nat.div_eq_of_lt hj, Nat.add_zero]
 have h2 : (i' * sz + j') / sz = i' := by rw [Nat.mul_comm, Nat.mul_add_div (by omega), Nat.div_eq_of_lt hj', Nat.add_zero]
 have h3 : i = i' := by rw [← h1, ← h2, e]
 subst h3
 exact ⟨rfl, by omega⟩
theorem place_lt {sz i j m : Nat} (hj : j < sz) (hi : i < m) : i * sz + j < m * sz := by
 calc i * sz + j < i * sz + sz := by omega
  _ = (i + 1) * sz := by rw [Nat.succ_mul]
  _ ≤ m * sz := Nat.mul_le_mul_right _ hi
theorem store_v [Env] (hr : HRel G h w φ) {t : TypeId} {x v : AV} {a u : Value} (hx : V w φ G h x a) (hv : V w φ G h v u) {k : Heap → Prop} (hk : storeA P False h t x v k) :
  ∃ h' w', k h' ∧ (Instr.storeAt t a u).run P w = .ok () w' ∧ Turn G h w φ id h' w' φ := by
 obtain ⟨hkn, hk⟩ := bi_prop hk
 obtain ⟨h1, hk⟩ := bi_prop (c := lhas v.cells (szOf P t) && AV.ones v.cells) hk
 rw [Bool.and_eq_true] at h1
 have hlen := lhas_iff.1 h1.1
 cases x with
 | p b i off =>
  have hk' : (match h.get b with | .cells sz el => wrEl False h b sz el i off (szOf P t) v.cells k | _ => False) := hk
  cases hg : h.get b with
  | cells sz el =>
   rw [hg] at hk'
   obtain ⟨q, hq, hk'⟩ := on_prop hk'
   obtain ⟨h2, hk'⟩ := bi_prop hk'
   rw [lnth_eq] at hq
   have h2 := ble_iff.1 h2
   rw [llen_eq] at h2
   unfold V at hx; rw [VRep] at hx
   obtain ⟨cb, s, n, hφ, rfl⟩ := hx
   have hraw := Heap.get_raw hg (by intro e; cases e)
   have hne : h.raw b ≠ .none := by rw [hraw]; intro e; cases e
   obtain ⟨_, _, hbr⟩ := hr.blk b cb s n hne hφ
   rw [hraw] at hbr
   obtain ⟨rfl, c, ty, hw, hcs, hel0, hel⟩ := hbr
   obtain ⟨hql, hqc⟩ := hel i q hq
   have hilt : i < el.length := (List.getElem?_eq_some_iff.1 hq).1
   have hun : v ≠ .un := by intro e; subst e; have := h1.2; cases this
   have hvc := VRep.cells hun hv
   have hvl : u.cells.toList.length = szOf P t := by rw [← hvc.length, hlen]
   have hfit : i * sz + off + u.cells.toList.length ≤ c.size := by
    have : (i + 1) * sz ≤ el.length * sz := Nat.mul_le_mul_right _ hilt
    rw [Nat.succ_mul] at this
    omega
   refine ⟨_, _, hk', ?_, turn_set (c' := (c.toList.take (i * sz + off) ++ u.cells.toList ++ c.toList.drop (i * sz + off + u.cells.toList.length)).toArray) hr hraw hφ hw ?_ ?_ ?_⟩
   ·have hst := run_storeCells_at P cb (i * sz + off) ty u.cells.toList 0 c w hw (by omega) (ones_of h1.2 hvc)
    obtain ⟨ti, td, hi, _, hs, _⟩ := known_of hkn
    have hsz2 : u.cells.size = ti.size := by rw [← hs, ← hvl]; simp
    simp only [Nat.add_zero] at hst
    simp [Instr.storeAt, Instr.sureAddr, storeVar, sizeOf, typeInfo, hi, hsz2, hst]
   ·rw [size_splice _ _ _ hfit, hcs]
   ·rw [lset_eq, List.length_set]; exact hel0
   ·intro i' e' he'
    rw [lset_eq, List.getElem?_set] at he'
    have hne' := newEl_v (w := w) (φ := φ) (bad := BadOf G h φ) (cells := q) (us := ((List.range sz).map fun j => (c[i * sz + j]?).getD undef)) (VReps.of_at (by simp [hql]) fun j y hy => by
     obtain ⟨z, hz, hz2⟩ := hqc j y hy
     have hj : j < sz := by rw [← hql]; exact (List.getElem?_eq_some_iff.1 hy).1
     exact ⟨z, by rw [List.getElem?_map, List.getElem?_range hj]; simp [hz], hz2⟩) hvc off (szOf P t)
    have hlen2 := hne'.length
    by_cases hii : i = i'
    ·subst hii
     rw [if_pos rfl, if_pos hilt] at he'
     cases he'
     have hll : (newEl q v.cells off (szOf P t)).length = sz := by
      rw [hlen2]; simp [hvl]
      have : u.cells.size = szOf P t := by rw [← hvl]; simp
      omega
     refine ⟨hll, fun j y hy => ?_⟩
     obtain ⟨z, hz, hz2⟩ := hne'.at j y hy
     refine ⟨z, ?_, hz2⟩
     have hj : j < sz := by rw [← hll]; exact (List.getElem?_eq_some_iff.1 hy).1
     rw [get_splice _ _ _ _ hfit]
     rw [List.append_assoc, List.getElem?_append] at hz
     rw [show (List.take off ((List.range sz).map fun j => (c[i * sz + j]?).getD undef)).length = off by rw [List.length_take]; simp; omega] at hz
     by_cases h3 : j < off
     ·rw [if_pos h3, List.getElem?_take, if_pos h3, List.getElem?_map, List.getElem?_range hj] at hz
      rw [if_neg (by omega)]
      obtain ⟨z', hz', _⟩ := hqc j (q[j]'(by omega)) (List.getElem?_eq_getElem (by omega))
      simp [hz'] at hz
      rw [hz', hz]
     ·rw [if_neg h3, List.getElem?_append] at hz
      by_cases h4 : j - off < u.cells.toList.length
      ·rw [if_pos h4] at hz
       rw [if_pos (by omega), ← hz]
       congr 1; omega
      ·rw [if_neg h4] at hz
       rw [if_neg (by omega)]
       rw [List.getElem?_drop, show off + szOf P t + (j - off - u.cells.toList.length) = j by omega, List.getElem?_map, List.getElem?_range hj] at hz
       obtain ⟨z', hz', _⟩ := hqc j (q[j]'(by omega)) (List.getElem?_eq_getElem (by omega))
       simp [hz'] at hz
       rw [hz', hz]
    ·rw [if_neg hii] at he'
     obtain ⟨h5, h6⟩ := hel i' e' he'
     refine ⟨h5, fun j y hy => ?_⟩
     obtain ⟨z, hz, hz2⟩ := h6 j y hy
     refine ⟨z, ?_, hz2⟩
     rw [get_splice _ _ _ _ hfit, if_neg, hz]
     intro hc
     have hj : j < sz := by rw [← h5]; exact (List.getElem?_eq_some_iff.1 hy).1
     have h7 := place_inj (i := i) (j := i' * sz + j - i * sz) (i' := i') (j' := j) (sz := sz) (by omega) hj (by omega)
     exact hii h7.1
  | none => rw [hg] at hk'; exact hk'.elim
  | iter _ _ _ => rw [hg] at hk'; exact hk'.elim
  | map _ => rw [hg] at hk'; exact hk'.elim
 | _ => exact hk.elim
theorem does_store [Env] (hr : HRel G h w φ) (ho : ∀ x, V w φ G h (ρ x) (e x)) {t : TypeId} {x y : Operand} (hop : o.op = .store t x y) {k : AV → Heap → Prop} {call : Call' Prop}
  (hk : evStore P t x y False call ρ h id k) : ∃ av h', k av h' ∧ Does P G h w φ id o e av h' := by
 obtain ⟨h', w', h1, h2, h3⟩ := store_v hr (ho x) (ho y) (id := id) hk
 refine ⟨_, h', h1, undef, w', φ, .inr ⟨?_, rfl⟩, by rw [VRep]; trivial, h3⟩
 simp only [execOp, hop, Sem.run_bind, h2, Result.andThen_ok]
 rfl
end
end Go.Zev
/-
  Operation by operation: slices that are made, appends.
-/
set_option linter.unusedSimpArgs false
set_option linter.unusedVariables false
namespace Go.Zev
open Go
section
variable {P : Program} {G : Bad} {h h' h1 h2 : Heap} {w w' w1 w2 : World} {φ φ' φ1 φ2 : Phi} {id : Nat} {o : Oper} {e : Operand → Value} {ρ : Operand → AV} {bad : Bad}
theorem Turn.trans [Env] (a : Turn G h w φ id h1 w1 φ1) (b : Turn G h1 w1 φ1 id h2 w2 φ2) : Turn G h w φ id h2 w2 φ2 :=
 ⟨b.rel, a.le.trans b.le, fun k hk hl => (b.keep k hk (Nat.lt_of_lt_of_le hl a.next)).trans (a.keep k hk hl), a.ext.trans b.ext a.own,
  fun k hk ho => a.own k hk (b.own k (Nat.lt_of_lt_of_le hk a.ext.size) ho), Nat.le_trans a.next b.next,
  b.win.1.trans a.win.1, b.win.2.1.trans a.win.2.1, b.win.2.2.trans a.win.2.2⟩
theorem Turn.goes [Env] (t : Turn G h w φ id h' w' φ') : Goes w (BadOf G h φ) w' (BadOf G h' φ') := t.ext.goes (fun k hk => .inr hk) (fun k hk hb => hb.imp (fun x => x) (t.own k hk))
theorem Turn.v [Env] (t : Turn G h w φ id h' w' φ') {x : AV} {v : Value} (hv : V w φ G h x v) : V w' φ' G h' x v := VRep.mono t.goes t.le _ _ hv
theorem Turn.vs [Env] (t : Turn G h w φ id h' w' φ') {x : List AV} {v : List Value} (hv : VReps w φ (BadOf G h φ) x v) : VReps w' φ' (BadOf G h' φ') x v := VReps.mono t.goes t.le _ _ hv
theorem Own.of_raw (hraw : ∀ k, h'.raw k = h.raw k) : Own h' φ = Own h φ := by
 funext k; unfold Own; simp only [hraw]
theorem HRel.of_raw [Env] (hr : HRel G h w φ) (hraw : ∀ k, h'.raw k = h.raw k) (hn : h'.next = h.next) : HRel G h' w φ := by
 have hb : BadOf G h' φ = BadOf G h φ := by unfold BadOf; rw [Own.of_raw hraw]
 refine ⟨fun b cb sz n h1 h2 => ?_, fun b h1 => hr.has b (by rw [← hraw]; exact h1), fun b h1 => by rw [hn]; exact hr.lt b h1, hr.gOld, fun b b' cb sz n sz' n' h1 h2 => hr.inj b b' cb sz n sz' n' (by rw [← hraw]; exact h1) (by rw [← hraw]; exact h2), hr.pin⟩
 rw [hb, hraw]
 exact hr.blk b cb sz n (by rw [← hraw]; exact h1) h2
theorem Turn.of_raw [Env] (t : Turn G h w φ id h1 w' φ') (hraw : ∀ k, h2.raw k = h1.raw k) (hn : h2.next = h1.next) (hw : h2.lim = h1.lim ∧ h2.top = h1.top ∧ h2.mask = h1.mask) : Turn G h w φ id h2 w' φ' :=
 ⟨t.rel.of_raw hraw hn, t.le, t.keep, t.ext, by rw [Own.of_raw hraw]; exact t.own, by rw [hn]; exact t.next, hw.1.trans t.win.1, hw.2.1.trans t.win.2.1, hw.2.2.trans t.win.2.2⟩
theorem turn_less [Env] (hr : HRel G h w φ) (hw : w'.heap = w.heap) (ho : w'.os = w.os) (ht : w'.tape = w.tape) (hu : w'.output = w.output)
  (hraw : ∀ k, h'.raw k ≠ .none → h'.raw k = h.raw k) (hn : h'.next = h.next) (hwin : h'.lim = h.lim ∧ h'.top = h.top ∧ h'.mask = h.mask) : Turn G h w φ id h' w' φ := by
 have hown : ∀ k, Own h' φ k → Own h φ k := by
  rintro k ⟨b, sz, n, h1, h2⟩
  exact ⟨b, sz, n, by rw [← hraw b h1]; exact h1, h2⟩
 have hext : Ext (Own h φ) w w' := ⟨ho, ht, hu, by rw [hw]; exact Nat.le_refl _, fun k _ _ => by rw [hw], fun a _ => by unfold World.frozen?; rw [hw]⟩
 have hgo : Goes w (BadOf G h φ) w' (BadOf G h' φ) := hext.goes (fun k hk => .inr hk) (fun k _ hb => hb.imp (fun x => x) (hown k))
 refine ⟨⟨fun b cb sz n h1 h2 => ?_, fun b h1 => hr.has b (by rw [← hraw b h1]; exact h1), fun b h1 => by rw [hn]; exact hr.lt b h1, fun k hk => by rw [hw]; exact hr.gOld k hk, fun b b' cb sz n sz' n' h1 h2 => hr.inj b b' cb sz n sz' n' (by rw [← hraw b h1]; exact h1) (by rw [← hraw b' h2]; exact h2), hr.pins hext fun _ q => q⟩,
  PhiLe.refl _, fun _ _ _ => rfl, hext, fun k _ => hown k, by rw [hn]; exact Nat.le_refl _, hwin⟩
 obtain ⟨h3, h4, h5⟩ := hr.blk b cb sz n (by rw [← hraw b h1]; exact h1) h2
 rw [hraw b h1]
 exact ⟨h3, by rw [hw]; exact h4, h5.mono hgo (PhiLe.refl _) (by rw [hw])⟩
theorem turn_drew [Env] (hr : HRel G h w φ) : Turn G h w φ id h w.drew φ := turn_less hr rfl rfl rfl rfl (fun _ _ => rfl) rfl ⟨rfl, rfl, rfl⟩
theorem turn_kill [Env] (hr : HRel G h w φ) (b : Nat) : Turn G h w φ id (h.set b .none) w φ :=
 turn_less hr rfl rfl rfl rfl (fun k hk => by rw [Heap.raw_set] at hk ⊢; split at hk; exact absurd rfl hk; rename_i e; rw [if_neg e]) (Heap.next_set _ _ _) (Heap.win_set _ _ _)
theorem turn_rename [Env] (hr : HRel G h w φ) (hid : φ id = none) (hle : id ≤ h.next) {b : Nat} {X : Blk} {y : Nat × Nat × Nat} (hraw : h.raw b = X) (hX : X ≠ .none) (hφ : φ b = some y) :
  Turn G h w φ id ((h.set b .none).new id X) w (φ.set id y) := by
 have hne : id ≠ b := by intro e; subst e; rw [hid] at hφ; cases hφ
 have hcap : b < cap := Heap.raw_cap (by rw [hraw]; exact hX)
 have hr1 : ∀ k, ((h.set b .none).new id X).raw k = if k = id ∧ id < cap then X else if k = b then .none else h.raw k := by
  intro k
  have e1 : (if k = b ∧ b < cap then Blk.none else h.raw k) = if k = b then .none else h.raw k := by
   by_cases e : k = b
   ·rw [if_pos ⟨e, hcap⟩, if_pos e]
   ·rw [if_neg (fun x => e x.1), if_neg e]
  rw [Heap.raw_new, Heap.raw_set, e1]
 have hp : PhiLe φ (φ.set id y) := Phi.set_le hid
 have src : ∀ k cb sz n, ((h.set b .none).new id X).raw k ≠ .none → (φ.set id y) k = some (cb, sz, n) → ∃ k', h.raw k' ≠ .none ∧ φ k' = some (cb, sz, n) ∧ ((h.set b .none).new id X).raw k = h.raw k' ∧ (k = id ∧ k' = b ∨ k ≠ id ∧ k' = k ∧ k ≠ b) := by
  intro k cb sz n h1 h2
  unfold Phi.set at h2
  rw [hr1] at h1 ⊢
  by_cases e : k = id
  ·rw [if_pos e] at h2
   by_cases hc : id < cap
   ·rw [if_pos ⟨e, hc⟩] at h1 ⊢
    exact ⟨b, by rw [hraw]; exact hX, hφ.trans h2, hraw.symm, .inl ⟨e, rfl⟩⟩
   ·rw [if_neg (fun x => hc x.2), if_neg (by rw [e]; exact hne)] at h1
    exact absurd (Heap.raw_cap h1) (by rw [e]; exact hc)
  ·rw [if_neg e] at h2
   rw [if_neg (fun x => e x.1)] at h1 ⊢
   by_cases e2 : k = b
   ·rw [if_pos e2] at h1; exact absurd rfl h1
   ·rw [if_neg e2] at h1 ⊢
    exact ⟨k, h1, h2, rfl, .inr ⟨e, rfl, e2⟩⟩
 have hown : ∀ k, Own ((h.set b .none).new id X) (φ.set id y) k → Own h φ k := by
  rintro k ⟨q, sz, n, h1, h2⟩
  obtain ⟨q', h3, h4, _⟩ := src q k sz n h1 h2
  exact ⟨q', sz, n, h3, h4⟩
 have hgo : Goes w (BadOf G h φ) w (BadOf G ((h.set b .none).new id X) (φ.set id y)) := (Ext.refl (Own h φ) w).goes (fun k hk => .inr hk) (fun k _ hb => hb.imp (fun x => x) (hown k))
 have hnx : ((h.set b .none).new id X).next = if id = h.next then id + 1 else h.next := by rw [Heap.next_new, Heap.next_set]
 refine ⟨⟨?_, ?_, ?_, hr.gOld, ?_, hr.pin⟩, hp, fun k hk _ => by unfold Phi.set; rw [if_neg hk], Ext.refl _ _, fun k _ => hown k, by rw [hnx]; split <;> omega, ?_⟩
 ·intro k cb sz n h1 h2
  obtain ⟨k', h3, h4, h5, _⟩ := src k cb sz n h1 h2
  obtain ⟨h6, h7, h8⟩ := hr.blk k' cb sz n h3 h4
  rw [h5]
  exact ⟨h6, h7, h8.mono hgo hp rfl⟩
 ·intro k h1
  rw [hr1] at h1
  unfold Phi.set
  by_cases e : k = id
  ·rw [if_pos e]; simp
  ·rw [if_neg e]
   rw [if_neg (fun x => e x.1)] at h1
   by_cases e2 : k = b
   ·rw [if_pos e2] at h1; exact absurd rfl h1
   ·rw [if_neg e2] at h1; exact hr.has k h1
 ·intro k h1
  unfold Phi.set at h1
  rw [hnx]
  by_cases e : k = id
  ·subst e; split <;> omega
  ·rw [if_neg e] at h1
   have := hr.lt k h1
   split <;> omega
 ·intro k k' cb sz n sz' n' h1 h2 h3 h4
  obtain ⟨q, a1, a2, _, a3⟩ := src k cb sz n h1 h3
  obtain ⟨q', b1, b2, _, b3⟩ := src k' cb sz' n' h2 h4
  have := hr.inj q q' cb sz n sz' n' a1 b1 a2 b2
  rcases a3 with ⟨rfl, rfl⟩ | ⟨_, rfl, a4⟩ <;> rcases b3 with ⟨rfl, rfl⟩ | ⟨_, rfl, b4⟩ <;> first | rfl | exact this | exact absurd this a4 | exact absurd this.symm b4
 ·have h1 := Heap.win_new (h.set b .none) id X
  have h2 := Heap.win_set h b .none
  exact ⟨h1.1.trans h2.1, h1.2.1.trans h2.2.1, h1.2.2.trans h2.2.2⟩
structure VEl (w : World) (φ : Phi) (bad : Bad) (sz : Nat) (el : List (List AV)) (cs : List Value) : Prop where
 len : cs.length = el.length * sz
 at' : ∀ (i : Nat) (q : List AV), el[i]? = some q → q.length = sz ∧ ∀ (j : Nat) (y : AV), q[j]? = some y → ∃ u, cs[i * sz + j]? = some u ∧ VRep w φ bad y u
theorem VEl.nil (sz : Nat) : VEl w φ bad sz [] [] := ⟨by simp, fun i q hq => by simp at hq⟩
theorem VEl.append {sz : Nat} {el el' : List (List AV)} {cs cs' : List Value} (a : VEl w φ bad sz el cs) (b : VEl w φ bad sz el' cs') : VEl w φ bad sz (el ++ el') (cs ++ cs') := by
 refine ⟨by rw [List.length_append, List.length_append, a.len, b.len, Nat.add_mul], fun i q hq => ?_⟩
 rw [List.getElem?_append] at hq
 by_cases hi : i < el.length
 ·rw [if_pos hi] at hq
  obtain ⟨h1, h2⟩ := a.at' i q hq
  refine ⟨h1, fun j y hy => ?_⟩
  obtain ⟨u, h3, h4⟩ := h2 j y hy
  refine ⟨u, ?_, h4⟩
  rw [List.getElem?_append, if_pos (List.getElem?_eq_some_iff.1 h3).1]; exact h3
 ·rw [if_neg hi] at hq
  obtain ⟨h1, h2⟩ := b.at' _ q hq
  refine ⟨h1, fun j y hy => ?_⟩
  obtain ⟨u, h3, h4⟩ := h2 j y hy
  refine ⟨u, ?_, h4⟩
  have hle : el.length * sz ≤ i * sz := Nat.mul_le_mul_right _ (by omega)
  rw [List.getElem?_append, if_neg (by rw [a.len]; omega), a.len, ← h3]
  congr 1
  rw [Nat.sub_mul]; omega
theorem VEl.mono {sz : Nat} {el : List (List AV)} {cs : List Value} {bad' : Bad} (g : Goes w bad w' bad') (hp : PhiLe φ φ') (a : VEl w φ bad sz el cs) : VEl w' φ' bad' sz el cs :=
 ⟨a.len, fun i q hq => ⟨(a.at' i q hq).1, fun j y hy => by obtain ⟨u, h1, h2⟩ := (a.at' i q hq).2 j y hy; exact ⟨u, h1, VRep.mono g hp _ _ h2⟩⟩⟩
theorem VEl.at_lt {sz : Nat} {el : List (List AV)} {cs : List Value} (hs : 0 < sz) (a : VEl w φ bad sz el cs) {k : Nat} (hk : k < cs.length) : ∃ i q y, el[i]? = some q ∧ q[k - i * sz]? = some y ∧ VRep w φ bad y cs[k] := by
 have hk' : k < el.length * sz := by rw [← a.len]; exact hk
 have hi : k / sz < el.length := (Nat.div_lt_iff_lt_mul hs).2 hk'
 have hm : k / sz * sz + k % sz = k := by rw [Nat.mul_comm]; exact Nat.div_add_mod k sz
 have hq := a.at' (k / sz) _ (List.getElem?_eq_getElem hi)
 have hj : k % sz < (el[k / sz]'hi).length := by rw [hq.1]; exact Nat.mod_lt _ hs
 obtain ⟨u, h1, h2⟩ := hq.2 (k % sz) _ (List.getElem?_eq_getElem hj)
 refine ⟨k / sz, _, (el[k / sz]'hi)[k % sz]'hj, List.getElem?_eq_getElem hi, ?_, ?_⟩
 ·rw [show k - k / sz * sz = k % sz by omega]; exact List.getElem?_eq_getElem hj
 ·rw [hm, List.getElem?_eq_getElem hk] at h1
  injection h1 with h1
  rw [h1]; exact h2
theorem VEl.ones [Env] {sz : Nat} {el : List (List AV)} {cs : List Value} (hs : 0 < sz) (a : VEl w φ bad sz el cs) (h1 : onesAll el = true) : ∀ v ∈ cs, v.oneCell' = true := by
 intro v hv
 obtain ⟨k, hk, rfl⟩ := List.getElem_of_mem hv
 obtain ⟨i, q, y, h2, h3, h4⟩ := a.at_lt hs hk
 unfold onesAll at h1
 rw [lall_eq, List.all_eq_true] at h1
 have h5 := h1 q (List.mem_of_getElem? h2)
 unfold AV.ones at h5
 rw [lall_eq, List.all_eq_true] at h5
 exact one_of (h5 y (List.mem_of_getElem? h3)) h4
theorem VEl.collect {sz : Nat} {el : List (List AV)} (hs : 0 < sz) (f : Nat → Option Value)
  (hf : ∀ (i : Nat) (q : List AV), el[i]? = some q → q.length = sz ∧ ∀ (j : Nat) (y : AV), q[j]? = some y → ∃ u, f (i * sz + j) = some u ∧ VRep w φ bad y u) :
  ∃ cs, VEl w φ bad sz el cs ∧ ∀ (j : Nat) (v : Value), cs[j]? = some v → f j = some v := by
 have hget : ∀ k, k < el.length * sz → ∃ u, f k = some u := by
  intro k hk'
  have hi : k / sz < el.length := (Nat.div_lt_iff_lt_mul hs).2 hk'
  have hm : k / sz * sz + k % sz = k := by rw [Nat.mul_comm]; exact Nat.div_add_mod k sz
  have hq := hf (k / sz) _ (List.getElem?_eq_getElem hi)
  have hj : k % sz < (el[k / sz]'hi).length := by rw [hq.1]; exact Nat.mod_lt _ hs
  obtain ⟨u, h1, h2⟩ := hq.2 (k % sz) _ (List.getElem?_eq_getElem hj)
  rw [hm] at h1
  exact ⟨u, h1⟩
 have hcs : ∀ k, k < el.length * sz → ((List.range (el.length * sz)).map fun j => (f j).getD undef)[k]? = f k := by
  intro k hk
  obtain ⟨u, hu⟩ := hget k hk
  rw [List.getElem?_map, List.getElem?_range hk, hu]
  simp [hu]
 refine ⟨(List.range (el.length * sz)).map fun j => (f j).getD undef, ⟨by simp, fun i q hq => ⟨(hf i q hq).1, fun j y hy => ?_⟩⟩, fun j v hj => ?_⟩
 ·obtain ⟨u, h1, h2⟩ := (hf i q hq).2 j y hy
  refine ⟨u, ?_, h2⟩
  rw [hcs, h1]
  refine place_lt ?_ (List.getElem?_eq_some_iff.1 hq).1
  rw [← (hf i q hq).1]; exact (List.getElem?_eq_some_iff.1 hy).1
 ·have hjl : j < el.length * sz := by have := (List.getElem?_eq_some_iff.1 hj).1; simpa using this
  rw [hcs j hjl] at hj
  exact hj
theorem elems_v [Env] (hr : HRel G h w φ) {sz : Nat} (hs : 0 < sz) {x : AV} {u : Value} (hx : V w φ G h x u) {k : List (List AV) → Prop} (hk : elemsA False h sz x k) :
  ∃ el base c cs, k el ∧ u = .slice base el.length c ∧ el.length ≤ c ∧ VEl w φ (BadOf G h φ) sz el cs ∧ (cs ≠ [] → base ≠ none) ∧ ∀ a, base = some a → ∀ (j : Nat) (v : Value), cs[j]? = some v → w.cell? (a.add j) = some v := by
 unfold V at hx
 cases x with
 | nsl =>
  rw [VRep] at hx
  exact ⟨[], none, 0, [], hk, hx, Nat.le_refl _, VEl.nil sz, fun e => absurd rfl e, fun a e => by cases e⟩
 | es =>
  rw [VRep] at hx
  obtain ⟨a, rfl⟩ := hx
  exact ⟨[], a, 0, [], hk, rfl, Nat.le_refl _, VEl.nil sz, fun e => absurd rfl e, fun a e j v hj => by simp at hj⟩
 | fs s full el =>
  obtain ⟨h1, hk2⟩ := bi_prop hk
  have h1 := beq_iff.1 h1
  clear hk
  subst h1
  rw [VRep, FRep] at hx
  obtain ⟨a, n, rfl, h2, _, h3⟩ := hx
  by_cases he : el = []
  ·subst he
   exact ⟨[], a, n, [], hk2, rfl, h2, VEl.nil s, fun e => absurd rfl e, fun a e j v hj => by simp at hj⟩
  ·obtain ⟨b, off, rfl, h4⟩ := h3 he
   obtain ⟨cs, h5, h6⟩ := VEl.collect (w := w) (φ := φ) (bad := BadOf G h φ) (el := el) hs (fun k => w.cell? ⟨b, off + k, none⟩) (fun i q hq => by
    obtain ⟨h7, h8⟩ := FEls.at s b el off h4 i q hq
    refine ⟨h7, fun j y hy => ?_⟩
    obtain ⟨u, h9, _, h10⟩ := FCells.at b q _ h8 j y hy
    exact ⟨u, by rw [← Nat.add_assoc]; exact h9, FRep.toV _ _ _ h10⟩)
   refine ⟨el, _, n, cs, hk2, rfl, h2, h5, fun _ e => (by cases e), fun a e j v hj => ?_⟩
   injection e with e; subst e
   rw [Addr.add_lit]
   exact h6 j v hj
 | sl b s st len cp full =>
  obtain ⟨h1, hk2⟩ := bi_prop hk
  have h1 := beq_iff.1 h1
  clear hk
  subst h1
  cases hg : h.get b with
  | cells s' el =>
   rw [hg] at hk2
   obtain ⟨h2, hk2⟩ := bi_prop (c := lhas (ltake (ldrop el st) len) len) hk2
   have h2 := lhas_iff.1 h2
   rw [VRep] at hx
   obtain ⟨cb, n, a, m, hφ, rfl, _, h3, _, h4⟩ := hx
   rw [ltake_eq, ldrop_eq] at h2 hk2
   by_cases he : len = 0
   ·subst he
    refine ⟨[], a, m, [], hk2, rfl, by simp, VEl.nil s, fun e => absurd rfl e, fun a e j v hj => by simp at hj⟩
   ·obtain ⟨rfl, h5⟩ := h4 (.inl (by omega))
    have hraw := Heap.get_raw hg (by intro e; cases e)
    have hne : h.raw b ≠ .none := by rw [hraw]; intro e; cases e
    obtain ⟨_, _, hbr⟩ := hr.blk b cb s n hne hφ
    rw [hraw] at hbr
    obtain ⟨rfl, c, ty, hw, hcs, hel0, hel⟩ := hbr
    obtain ⟨cs, h7, h8⟩ := VEl.collect (w := w) (φ := φ) (bad := BadOf G h φ) (el := (el.drop st).take len) hs (fun k => w.cell? ⟨cb, st * s' + k, none⟩) (fun i q hq => by
     rw [List.getElem?_take] at hq
     split at hq
     ·rw [List.getElem?_drop] at hq
      obtain ⟨h9, h10⟩ := hel _ q hq
      refine ⟨h9, fun j y hy => ?_⟩
      obtain ⟨u, h11, h12⟩ := h10 j y hy
      refine ⟨u, ?_, h12⟩
      unfold World.cell?
      rw [hw]
      rw [Nat.add_mul, Nat.add_assoc] at h11
      simpa using h11
     ·cases hq)
    refine ⟨_, _, m, cs, hk2, by rw [h2], by rw [h2]; exact h3, h7, fun _ e => (by cases e), fun a e j v hj => ?_⟩
    injection e with e; subst e
    rw [Addr.add_lit]
    exact h8 j v hj
  | none => rw [hg] at hk2; exact hk2.elim
  | iter _ _ _ => rw [hg] at hk2; exact hk2.elim
  | map _ => rw [hg] at hk2; exact hk2.elim
 | _ => exact hk.elim
theorem src_of [Env] {sz : Nat} (hs : 0 < sz) {uy ey : TypeId} (hu : P.underlying uy = some (.slice ey)) {el : List (List AV)} {base : Option Addr} {c : Nat} {cs : List Value} (hv : VEl w φ bad sz el cs) (h1 : onesAll el = true)
  (hb : cs ≠ [] → base ≠ none) (hc : ∀ a, base = some a → ∀ (j : Nat) (v : Value), cs[j]? = some v → w.cell? (a.add j) = some v) : Src P sz uy (.slice base el.length c) el.length cs w := by
 cases base with
 | some a => exact Src.ofSlice w hu a _ c cs hv.len (hc a rfl) (hv.ones hs h1)
 | none =>
  have hcs : cs = [] := by cases cs; rfl; exact absurd rfl (hb (by simp))
  subst hcs
  have hel : el = [] := by
   have := hv.len
   cases el with
   | nil => rfl
   | cons q el => simp [Nat.succ_mul] at this; omega
  subst hel
  exact Src.ofNil w hu c
theorem olds_of {sz : Nat} {el : List (List AV)} {base : Option Addr} {c : Nat} {cs : List Value} (hs : 0 < sz) (hv : VEl w φ bad sz el cs)
  (hb : cs ≠ [] → base ≠ none) (hc : ∀ a, base = some a → ∀ (j : Nat) (v : Value), cs[j]? = some v → w.cell? (a.add j) = some v) :
  (Builtin.firstCells sz el.length (.slice base el.length c)).run P w.drew = .ok cs.toArray w.drew := by
 cases base with
 | some a => exact run_firstCells_some w.drew sz el.length a _ c cs hv.len (by simpa using hc a rfl)
 | none =>
  have hcs : cs = [] := by cases cs; rfl; exact absurd rfl (hb (by simp))
  subst hcs
  exact run_firstCells_none w.drew sz el.length el.length c
end
end Go.Zev

/-
  Operation by operation: appends, slices that are made.
-/
set_option linter.unusedSimpArgs false
set_option linter.unusedVariables false
namespace Go.Zev
open Go
section
variable {P : Program} {G : Bad} {h h' h1 h2 : Heap} {w w' w1 w2 : World} {φ φ' φ1 φ2 : Phi} {id : Nat} {o : Oper} {e : Operand → Value} {ρ : Operand → AV} {bad : Bad}
structure SlTy (P : Program) (ty : TypeId) (q : TypeId × Nat × List AV) : Prop where
 und : P.underlying ty = some (.slice q.1)
 pos : 0 < q.2.1
 ones : AV.ones q.2.2 = true
 len : q.2.2.length = q.2.1
 info : ∃ i v, P.info? q.1 = some i ∧ i.zero = some v ∧ i.size = q.2.1 ∧ i.bytes = bytesOf P q.1 ∧ q.2.2 = (AV.of v).cells
theorem slOf_some {ty : TypeId} {q : TypeId × Nat × List AV} (hq : slOf P ty = some q) : SlTy P ty q := by
 obtain ⟨t, ht, hq⟩ := ob_prop hq
 obtain ⟨zc, hz, hq⟩ := ob_prop hq
 injection hq with hq
 subst hq
 unfold zcells at hz
 cases hzo : zeroOf P t with
 | none => rw [hzo] at hz; cases hz
 | some z =>
  rw [hzo] at hz
  obtain ⟨h1, hz⟩ := bi_some (c := lhas z.cells (szOf P t) && Nat.blt 0 (szOf P t) && AV.ones z.cells) hz
  rw [Bool.and_eq_true, Bool.and_eq_true] at h1
  obtain ⟨i, v, hi, hv, rfl⟩ := zero_of hzo
  subst hz
  exact ⟨elemT_of ht, blt_iff.1 h1.1.2, h1.2, lhas_iff.1 h1.1.1, i, v, hi, hv, by unfold szOf infoOf; rw [hi], by unfold bytesOf infoOf; rw [hi], rfl⟩
theorem run_append_none {t tx ty e : TypeId} {i : TypeInfo} (ht : P.underlying t = some (.slice e)) (hi : P.info? e = some i) {base : Option Addr} {l c : Nat} {x : Value} (hs : Src P i.size tx x 0 [] w) (hl : l ≤ c) :
  (Builtin.append_ #[t, tx] ty #[.slice base l c, x]).run P w = .ok (.slice base l c) w := by
 rcases hs.kind with ⟨e', hk⟩ | hk <;>
  (cases base <;> simp [Builtin.append_, run_underlying ht, run_underlying hk, sizeOf, typeInfo, hi, hs.len, hl, hs.cells, storeCells])
theorem run_append_here {t tx ty e : TypeId} {i : TypeInfo} (ht : P.underlying t = some (.slice e)) (hi : P.info? e = some i) {g sLen sCap n : Nat} {cur : Array Value} {et : TypeId} {x : Value} {news : List Value}
  (hg : w.heap[g]? = some (.cells cur et (0, 0))) (hs : Src P i.size tx x n news w) (hroom : sLen + n ≤ sCap) (hfit : sLen * i.size + news.length ≤ cur.size) :
  (Builtin.append_ #[t, tx] ty #[.slice (some ⟨g, 0, none⟩) sLen sCap, x]).run P w =
   .ok (.slice (some ⟨g, 0, none⟩) (sLen + n) sCap) (w.setRow g (cur.toList.take (sLen * i.size) ++ news ++ cur.toList.drop (sLen * i.size + news.length)).toArray) := by
 have hst := run_storeCells_at P g (sLen * i.size) et news 0 cur w hg (by simpa using hfit) hs.one
 simp only [Nat.add_zero] at hst
 rcases hs.kind with ⟨e', hk⟩ | hk <;> simp [Builtin.append_, run_underlying ht, run_underlying hk, sizeOf, typeInfo, hi, hs.len, hroom, hs.cells, Addr.add_lit, hst]
theorem fits {len n sCap by' : Nat} (h1 : len ≤ most) (h2 : n ≤ most) (h3 : by' ≤ 2 ^ 20) (h4 : sCap < len + n) :
  ((len + n : Nat) : Int) ≤ 9223372036854775807 ∧ Builtin.nextslicecap (len + n) sCap * by' ≤ 281474976710656 := by
 have hm : most = 33554432 := rfl
 have h5 : (len + n) * by' ≤ 67108864 * 1048576 := Nat.mul_le_mul (by omega) (by omega)
 exact ⟨by omega, growslice_fits h4 (by omega)⟩
theorem run_append_room {t tx ty e : TypeId} {i : TypeInfo} (ht : P.underlying t = some (.slice e)) (hi : P.info? e = some i) {g off sLen sCap n : Nat} {cur : Array Value} {et : TypeId} {x : Value} {news : List Value}
  (hg : w.heap[g]? = some (.cells cur et (0, 0))) (hs : Src P i.size tx x n news w) (hroom : sLen + n ≤ sCap) (hfit : off + sLen * i.size + news.length ≤ cur.size) :
  (Builtin.append_ #[t, tx] ty #[.slice (some ⟨g, off, none⟩) sLen sCap, x]).run P w =
   .ok (.slice (some ⟨g, off, none⟩) (sLen + n) sCap) (w.setRow g (cur.toList.take (off + sLen * i.size) ++ news ++ cur.toList.drop (off + sLen * i.size + news.length)).toArray) := by
 have hst := run_storeCells_at P g (off + sLen * i.size) et news 0 cur w hg (by simpa using hfit) hs.one
 simp only [Nat.add_zero] at hst
 rcases hs.kind with ⟨e', hk⟩ | hk <;> simp [Builtin.append_, run_underlying ht, run_underlying hk, sizeOf, typeInfo, hi, hs.len, hroom, hs.cells, Addr.add_mid, hst]
theorem turn_splice [Env] (hr : HRel G h w φ) {b cb sz n : Nat} {el src : List (List AV)} {news : List Value} (hraw : h.raw b = .cells sz el) (hφ : φ b = some (cb, sz, n)) (h2 : VEl w φ (BadOf G h φ) sz src news) {s : Nat} (hs : s + src.length ≤ el.length) :
  ∃ c et, w.heap[cb]? = some (.cells c et (0, 0)) ∧ s * sz + news.length ≤ c.size ∧
   Turn G h w φ id (h.set b (.cells sz (el.take s ++ (src ++ el.drop (s + src.length))))) (w.setRow cb (c.toList.take (s * sz) ++ news ++ c.toList.drop (s * sz + news.length)).toArray) φ := by
 have hne : h.raw b ≠ .none := by rw [hraw]; intro e; cases e
 obtain ⟨_, _, hbr⟩ := hr.blk b cb sz n hne hφ
 rw [hraw] at hbr
 obtain ⟨_, c, et, hw, hcs, hel0, hel⟩ := hbr
 have hm : (s + src.length) * sz ≤ el.length * sz := Nat.mul_le_mul_right _ hs
 have hfit : s * sz + news.length ≤ c.size := by rw [h2.len, ← Nat.add_mul, hcs]; omega
 have hts : (el.take s).length = s := by rw [List.length_take]; omega
 refine ⟨c, et, hw, hfit, turn_set hr hraw hφ hw (by rw [size_splice _ _ _ hfit, hcs]) ?_ fun k r hk => ?_⟩
 ·rw [List.length_append, List.length_append, List.length_drop, hts]
  rw [show s + (src.length + (el.length - (s + src.length))) = el.length by omega]
  exact hel0
 ·have old : ∀ {r}, el[k]? = some r → (k < s ∨ s + src.length ≤ k) → r.length = sz ∧ ∀ (j : Nat) (y : AV), r[j]? = some y → ∃ u, (c.toList.take (s * sz) ++ news ++ c.toList.drop (s * sz + news.length)).toArray[k * sz + j]? = some u ∧ V w φ G h y u := by
   intro r hk hor
   obtain ⟨h3, h4⟩ := hel k r hk
   refine ⟨h3, fun j y hy => ?_⟩
   obtain ⟨u, h5, h6⟩ := h4 j y hy
   refine ⟨u, ?_, h6⟩
   have hj : j < sz := by rw [← h3]; exact (List.getElem?_eq_some_iff.1 hy).1
   rw [get_splice _ _ _ _ hfit, if_neg]
   ·exact h5
   ·rw [h2.len, ← Nat.add_mul]
    rcases hor with h | h
    ·have := place_lt (sz := sz) hj h
     omega
    ·have := Nat.mul_le_mul_right sz h
     omega
  rw [List.getElem?_append, hts] at hk
  by_cases h1 : k < s
  ·rw [if_pos h1, List.getElem?_take, if_pos h1] at hk
   exact old hk (.inl h1)
  ·rw [if_neg h1, List.getElem?_append] at hk
   by_cases h3 : k - s < src.length
   ·rw [if_pos h3] at hk
    obtain ⟨h4, h5⟩ := h2.at' _ r hk
    refine ⟨h4, fun j y hy => ?_⟩
    obtain ⟨u, h6, h7⟩ := h5 j y hy
    refine ⟨u, ?_, h7⟩
    have hle2 : s * sz ≤ k * sz := Nat.mul_le_mul_right _ (by omega)
    have hlt := (List.getElem?_eq_some_iff.1 h6).1
    rw [Nat.sub_mul] at hlt h6
    rw [get_splice _ _ _ _ hfit, if_pos (by omega), ← h6]
    congr 1; omega
   ·rw [if_neg h3, List.getElem?_drop] at hk
    rw [show s + src.length + (k - s - src.length) = k by omega] at hk
    exact old hk (.inr (by omega))
theorem append_grow [Env] (hr : HRel G h w φ) (hid : φ id = none) (hle : id ≤ h.next) {ty uy ot : TypeId} {q : TypeId × Nat × List AV} (hq : SlTy P ty q) (hby : bytesOf P q.1 ≤ 2 ^ 20) {el src : List (List AV)} {base : Option Addr} {sCap : Nat}
  {olds news : List Value} {x : Value} (h1 : VEl w φ (BadOf G h φ) q.2.1 el olds) (h2 : VEl w φ (BadOf G h φ) q.2.1 src news)
  (hold : (Builtin.firstCells q.2.1 el.length (.slice base el.length sCap)).run P w.drew = .ok olds.toArray w.drew) (hs : Src P q.2.1 uy x src.length news w)
  (hg : sCap < el.length + src.length) (hl1 : el.length ≤ most) (hl2 : src.length ≤ most) :
  ∃ v w' φ', (Builtin.append_ #[ty, uy] ot #[.slice base el.length sCap, x]).run P w = .ok v w' ∧ V w' φ' G (h.new id (.cells q.2.1 (el ++ src))) (appN id q.2.1 (el.length + src.length)) v ∧
   Turn G h w φ id (h.new id (.cells q.2.1 (el ++ src))) w' φ' := by
 obtain ⟨i, z, hi, hz, hsz, hb, hzc⟩ := hq.info
 obtain ⟨f1, f2⟩ := fits hl1 hl2 hby hg
 rw [← hsz] at hold hs
 have hrun := run_append_grow_src (P := P) w ty uy ot q.1 i z hq.und hi hz base el.length sCap olds hold x src.length news hs hg f1 (by rw [hb]; exact f2)
 have hge := grownCap_ge w (el.length + src.length) sCap q.1
 have hboth := h1.append h2
 have hsize : ((olds ++ news).toArray ++ Builtin.zeroCells z.cells (grownCap w (el.length + src.length) sCap q.1 - (el.length + src.length))).size = grownCap w (el.length + src.length) sCap q.1 * q.2.1 := by
  have hzs : z.cells.size = q.2.1 := by
   have := (of_cells (w := w) (φ := φ) (G := G) (h := h) z).length
   rw [← hzc, hq.len] at this
   simpa using this.symm
  rw [Array.size_append, size_zeroCells, hzs]
  have := hboth.len
  simp only [List.length_append] at this
  simp only [List.size_toArray, List.length_append, this, ← Nat.add_mul]
  congr 1; omega
 have t1 := turn_drew (id := id) hr
 have t2 := turn_new t1.rel hid hle (sz := q.2.1) (el := el ++ src) (c := (olds ++ news).toArray ++ Builtin.zeroCells z.cells (grownCap w (el.length + src.length) sCap q.1 - (el.length + src.length))) (ty := q.1)
  (by rw [hsize, List.length_append]; exact Nat.mul_le_mul_right _ hge) (fun k r hk => by
   have := (hboth.mono t1.goes t1.le).at' k r hk
   refine ⟨this.1, fun j y hy => ?_⟩
   obtain ⟨u, h3, h4⟩ := this.2 j y hy
   refine ⟨u, ?_, h4⟩
   have hlt := (List.getElem?_eq_some_iff.1 h3).1
   rw [Array.getElem?_append, if_pos (by simpa using hlt), List.getElem?_toArray]
   exact h3)
 refine ⟨_, _, _, hrun, ?_, t1.trans t2⟩
 unfold V appN
 rw [VRep]
 refine ⟨w.heap.size, _, _, grownCap w (el.length + src.length) sCap q.1, by unfold Phi.set; rw [if_pos rfl]; rfl, rfl, hge, hge, (fun e => by cases e), fun _ => ⟨by simp, ?_⟩⟩
 rw [hsize]; simp
theorem append_here [Env] (hr : HRel G h w φ) (hid : φ id = none) (hle : id ≤ h.next) {ty uy ot : TypeId} {q : TypeId × Nat × List AV} (hq : SlTy P ty q) {b cb n sCap : Nat} {el src : List (List AV)}
  {news : List Value} {x : Value} (hraw : h.raw b = .cells q.2.1 el) (hφ : φ b = some (cb, q.2.1, n)) (h2 : VEl w φ (BadOf G h φ) q.2.1 src news) (hs : Src P q.2.1 uy x src.length news w)
  (hroom : el.length + src.length ≤ sCap) (hcap : sCap * q.2.1 ≤ n) :
  ∃ v w' φ', (Builtin.append_ #[ty, uy] ot #[.slice (some ⟨cb, 0, none⟩) el.length sCap, x]).run P w = .ok v w' ∧ V w' φ' G ((h.set b .none).new id (.cells q.2.1 (el ++ src))) (appN id q.2.1 (el.length + src.length)) v ∧
   Turn G h w φ id ((h.set b .none).new id (.cells q.2.1 (el ++ src))) w' φ' := by
 obtain ⟨i, z, hi, hz, hsz, hb, hzc⟩ := hq.info
 have hne : h.raw b ≠ .none := by rw [hraw]; intro e; cases e
 obtain ⟨_, _, hbr⟩ := hr.blk b cb q.2.1 n hne hφ
 rw [hraw] at hbr
 obtain ⟨_, c, et, hw, hcs, hel0, hel⟩ := hbr
 have hfit : el.length * q.2.1 + news.length ≤ c.size := by
  rw [h2.len, ← Nat.add_mul, hcs]
  exact Nat.le_trans (Nat.mul_le_mul_right _ hroom) hcap
 have hrun := run_append_here (P := P) (w := w) (ty := ot) hq.und hi hw (by rw [hsz]; exact hs) hroom (by rw [hsz]; exact hfit)
 rw [hsz] at hrun
 have t1 := turn_set (id := id) (el' := el ++ src) (c' := (c.toList.take (el.length * q.2.1) ++ news ++ c.toList.drop (el.length * q.2.1 + news.length)).toArray) hr hraw hφ hw (by rw [size_splice _ _ _ hfit, hcs])
  (by rw [List.length_append]; exact Nat.le_trans (Nat.mul_le_mul_right _ hroom) hcap) (fun k r hk => by
   rw [List.getElem?_append] at hk
   by_cases hkl : k < el.length
   ·rw [if_pos hkl] at hk
    obtain ⟨h3, h4⟩ := hel k r hk
    refine ⟨h3, fun j y hy => ?_⟩
    obtain ⟨u, h5, h6⟩ := h4 j y hy
    refine ⟨u, ?_, h6⟩
    have hj : j < q.2.1 := by rw [← h3]; exact (List.getElem?_eq_some_iff.1 hy).1
    have := place_lt (sz := q.2.1) hj hkl
    rw [get_splice _ _ _ _ hfit, if_neg (by omega)]
    exact h5
   ·rw [if_neg hkl] at hk
    obtain ⟨h3, h4⟩ := h2.at' _ r hk
    refine ⟨h3, fun j y hy => ?_⟩
    obtain ⟨u, h5, h6⟩ := h4 j y hy
    refine ⟨u, ?_, h6⟩
    have hle2 : el.length * q.2.1 ≤ k * q.2.1 := Nat.mul_le_mul_right _ (by omega)
    have hlt := (List.getElem?_eq_some_iff.1 h5).1
    rw [Nat.sub_mul] at hlt h5
    rw [get_splice _ _ _ _ hfit, if_pos (by omega), ← h5]
    congr 1; omega)
 have hraw1 : (h.set b (.cells q.2.1 (el ++ src))).raw b = .cells q.2.1 (el ++ src) := by rw [Heap.raw_set, if_pos ⟨rfl, Heap.raw_cap hne⟩]
 have t2 := turn_rename t1.rel hid (by rw [Heap.next_set]; exact hle) hraw1 (fun e => by cases e) hφ
 have t3 := (t1.trans t2).of_raw (h2 := (h.set b .none).new id (.cells q.2.1 (el ++ src))) (by
   intro k
   simp only [Heap.raw_new, Heap.raw_set]
   by_cases e : k = b ∧ b < cap
   ·simp [e]
   ·simp [e]) (by simp only [Heap.next_new, Heap.next_set]) (by
   have a1 := Heap.win_new (h.set b .none) id (.cells q.2.1 (el ++ src))
   have a2 := Heap.win_new ((h.set b (.cells q.2.1 (el ++ src))).set b .none) id (.cells q.2.1 (el ++ src))
   have b1 := Heap.win_set h b .none
   have b2 := Heap.win_set (h.set b (.cells q.2.1 (el ++ src))) b .none
   have b3 := Heap.win_set h b (.cells q.2.1 (el ++ src))
   simp only [a1, a2, b1, b2, b3, and_self])
 refine ⟨_, _, _, hrun, ?_, t3⟩
 unfold V appN
 rw [VRep]
 exact ⟨cb, n, _, sCap, by unfold Phi.set; rw [if_pos rfl], rfl, hroom, hroom, (fun e => by cases e), fun _ => ⟨by simp, by omega⟩⟩
theorem ifSl_v {x : AV} {u : Value} (hs : isSl x = true) (hx : V w φ G h x u) : ∃ base l c, u = .slice base l c ∧ l ≤ c := by
 unfold V at hx
 cases x <;> first | (cases hs; done) | skip
 ·rw [VRep] at hx; exact ⟨none, 0, 0, hx, Nat.le_refl _⟩
 ·rw [VRep] at hx; obtain ⟨a, rfl⟩ := hx; exact ⟨a, 0, 0, rfl, Nat.le_refl _⟩
 ·rw [VRep] at hx; obtain ⟨cb, n, a, m, _, rfl, _, h3, _⟩ := hx; exact ⟨a, _, m, rfl, h3⟩
 ·rw [VRep, FRep] at hx; obtain ⟨a, n, rfl, h3, _⟩ := hx; exact ⟨a, _, n, rfl, h3⟩
def Makes [Env] (P : Program) (G : Bad) (h : Heap) (w : World) (φ : Phi) (id : Nat) (s : Sem Value) (av : AV) (h' : Heap) : Prop :=
 ∃ v w' φ', s.run P w = .ok v w' ∧ V w' φ' G h' av v ∧ Turn G h w φ id h' w' φ'
theorem append_v [Env] (hr : HRel G h w φ) (hid : φ id = none) (hle : id ≤ h.next) {ty uy ot : TypeId} {x y : AV} {u v : Value} (hx : V w φ G h x u) (hy : V w φ G h y v) {k : AV → Heap → Prop} (hk : appendA P False h id ty uy x y k) :
  ∃ av h', k av h' ∧ Makes P G h w φ id (Builtin.append_ #[ty, uy] ot #[u, v]) av h' := by
 obtain ⟨q, hq, hk⟩ := on_prop hk
 obtain ⟨hb, hk⟩ := bi_prop (c := isSlT P uy && Nat.ble (bytesOf P q.1) (2 ^ 20)) hk
 rw [Bool.and_eq_true] at hb
 obtain ⟨ey, huy⟩ := isSlT_of hb.1
 have hby := ble_iff.1 hb.2
 have hq := slOf_some hq
 obtain ⟨src, sb, sc, news, hk, rfl, _, hv2, hb2, hc2⟩ := elems_v hr hq.pos hy hk
 obtain ⟨i, z, hi, hz, hsz, hbb, hzc⟩ := hq.info
 cases src with
 | nil =>
  obtain ⟨h1, hk⟩ := bi_prop (c := isSl x) hk
  obtain ⟨base, l, c, rfl, hlc⟩ := ifSl_v h1 hx
  have hs : Src P i.size uy (.slice sb 0 sc) 0 [] w := by
   have := src_of (P := P) (w := w) (c := sc) hq.pos huy hv2 rfl hb2 hc2
   rw [hsz]
   have hn : news = [] := by have := hv2.len; simpa using this
   rw [hn] at this
   exact this
  exact ⟨x, h, hk, _, w, φ, run_append_none hq.und hi hs hlc, hx, Turn.refl id hr⟩
 | cons s0 srest =>
  obtain ⟨h1, hk⟩ := bi_prop (c := onesAll (s0 :: srest) && Nat.ble (llen (s0 :: srest)) most) hk
  rw [Bool.and_eq_true] at h1
  have hl2 := ble_iff.1 h1.2
  rw [llen_eq] at hl2 hk
  generalize hsrc : s0 :: srest = src at *
  have hpos : 0 < src.length := by rw [← hsrc]; simp
  have hs := src_of (P := P) (w := w) (c := sc) hq.pos huy hv2 h1.1 hb2 hc2
  have nilcase : ∀ a : Option Addr, u = .slice a 0 0 → k (appN id q.2.1 src.length) (h.new id (.cells q.2.1 src)) →
    ∃ av h', k av h' ∧ Makes P G h w φ id (Builtin.append_ #[ty, uy] ot #[u, .slice sb src.length sc]) av h' := by
   intro a hu hk
   subst hu
   have hold : (Builtin.firstCells q.2.1 ([] : List (List AV)).length (.slice a ([] : List (List AV)).length 0)).run P w.drew = Result.ok (([] : List Value).toArray) w.drew :=
    olds_of (w := w) hq.pos (VEl.nil (w := w) (φ := φ) (bad := BadOf G h φ) q.2.1) (fun e => absurd rfl e) (fun a e j v hj => by simp at hj)
   have := append_grow (ot := ot) hr hid hle hq hby (VEl.nil q.2.1) hv2 hold hs (by simpa using hpos) (Nat.zero_le _) hl2
   simp only [List.nil_append, List.length_nil, Nat.zero_add] at this
   exact ⟨_, _, hk, this⟩
  unfold V at hx
  cases x with
  | nsl => rw [VRep] at hx; exact nilcase none hx hk
  | es => rw [VRep] at hx; obtain ⟨a, rfl⟩ := hx; exact nilcase a rfl hk
  | fs s full el =>
   cases full with
   | false => exact hk.elim
   | true =>
    obtain ⟨h3, hk2⟩ := bi_prop (c := Nat.beq s q.2.1 && onesAll el && Nat.ble (llen el) most) hk
    rw [Bool.and_eq_true, Bool.and_eq_true] at h3
    have h4 := beq_iff.1 h3.1.1
    subst h4
    have hl1 := ble_iff.1 h3.2
    rw [llen_eq] at hl1
    have hx2 : VRep w φ (BadOf G h φ) (.fs q.2.1 true el) u := hx
    obtain ⟨el', base, c, olds, rfl, rfl, hlc, hv1, hb1, hc1⟩ := elems_v (k := fun l => l = el) hr hq.pos hx (by show bi (Nat.beq q.2.1 q.2.1) (el = el) False; rw [beq_iff.2 rfl])
    have hc : c = el'.length := by
     rw [VRep, FRep] at hx2
     obtain ⟨a, n, e, _, e2, _⟩ := hx2
     injection e with e3 e4 e5
     rw [e5]; exact e2 rfl
    rw [llen_eq, lapp_eq] at hk2
    exact ⟨_, _, hk2, append_grow (ot := ot) hr hid hle hq hby hv1 hv2 (olds_of hq.pos hv1 hb1 hc1) hs (by omega) hl1 hl2⟩
  | sl b s st len cp full =>
   obtain ⟨h3, hk2⟩ := bi_prop (c := Nat.beq s q.2.1 && Nat.ble len most) hk
   rw [Bool.and_eq_true] at h3
   have h4 := beq_iff.1 h3.1
   have hl1 := ble_iff.1 h3.2
   clear hk
   subst h4
   cases hg : h.get b with
   | cells s' el =>
    rw [hg] at hk2
    have hx2 : VRep w φ (BadOf G h φ) (.sl b q.2.1 st len cp full) u := hx
    cases full with
    | true =>
     obtain ⟨h5, hk3⟩ := bi_prop (c := lhas (ltake (ldrop el st) len) len) hk2
     obtain ⟨el', base, c, olds, e1, rfl, hlc, hv1, hb1, hc1⟩ := elems_v (k := fun l => l = ltake (ldrop el st) len) hr hq.pos hx (by
      dsimp only [elemsA]
      rw [hg, beq_iff.2 rfl]
      show bi (lhas (ltake (ldrop el st) len) len) _ False
      rw [h5])
     have h6 := lhas_iff.1 h5
     rw [← e1] at h6 hk3
     subst h6
     have hc : c = el'.length := by
      rw [VRep] at hx2
      obtain ⟨cb, n, a, m, _, e, _, _, e2, _⟩ := hx2
      injection e with e3 e4 e5
      rw [e5]; exact e2 rfl
     rw [lapp_eq] at hk3
     exact ⟨_, _, hk3, append_grow (ot := ot) hr hid hle hq hby hv1 hv2 (olds_of hq.pos hv1 hb1 hc1) hs (by omega) hl1 hl2⟩
    | false =>
     obtain ⟨h5, hk3⟩ := bi_prop (c := Nat.beq st 0 && lhas el len) hk2
     rw [Bool.and_eq_true] at h5
     have h6 := beq_iff.1 h5.1
     have h7 := lhas_iff.1 h5.2
     subst h6 h7
     obtain ⟨el', base, c, olds, e1, rfl, hlc, hv1, hb1, hc1⟩ := elems_v (k := fun l => l = el) hr hq.pos hx (by
      dsimp only [elemsA]
      rw [hg, beq_iff.2 rfl]
      show bi (lhas (ltake (ldrop el 0) el.length) el.length) _ False
      rw [ldrop_eq, ltake_eq, List.drop_zero, List.take_length, lhas_iff.2 rfl])
     subst e1
     rw [lapp_eq] at hk3
     rw [VRep] at hx2
     obtain ⟨cb, n, a, m, hφ, e, _, _, _, e2⟩ := hx2
     injection e with e3 e4 e5
     subst e3 e5
     obtain ⟨rfl, hcap⟩ := e2 (.inr rfl)
     simp only [Nat.zero_mul, Nat.zero_add] at hcap hc1 hb1
     have hraw := Heap.get_raw hg (by intro e; cases e)
     have hss : s' = q.2.1 := by
      have hne : h.raw b ≠ .none := by rw [hraw]; intro e; cases e
      obtain ⟨_, _, hbr⟩ := hr.blk b cb q.2.1 n hne hφ
      rw [hraw] at hbr
      exact hbr.1
     subst hss
     by_cases hroom : el'.length + src.length ≤ c
     ·refine ⟨_, _, hk3, ?_⟩
      have := append_here (P := P) (ot := ot) hr hid hle hq hraw hφ hv2 hs hroom hcap
      unfold Makes
      simpa using this
     ·obtain ⟨v', w', φ', r1, r2, r3⟩ := append_grow (ot := ot) (turn_kill (id := id) hr b).rel hid (by rw [Heap.next_set]; exact hle) hq hby (hv1.mono (turn_kill (id := id) hr b).goes (PhiLe.refl _)) (hv2.mono (turn_kill (id := id) hr b).goes (PhiLe.refl _))
       (olds_of (c := c) hq.pos hv1 hb1 (by simpa using hc1)) hs (by omega) hl1 hl2
      refine ⟨_, _, hk3, v', w', φ', ?_, r2, (turn_kill hr b).trans r3⟩
      simpa using r1
   | none => rw [hg] at hk2; exact hk2.elim
   | iter _ _ _ => rw [hg] at hk2; exact hk2.elim
   | map _ => rw [hg] at hk2; exact hk2.elim
  | _ => exact hk.elim
theorem zero_el [Env] {q : TypeId × Nat × List AV} {ty : TypeId} (hq : SlTy P ty q) {z : Value} {i : TypeInfo} (hi : P.info? q.1 = some i) (hz : i.zero = some z) (m k : Nat) (hkm : k ≤ m) :
  ∀ (a : Nat) (r : List AV), (lrep q.2.2 k)[a]? = some r → r.length = q.2.1 ∧ ∀ (j : Nat) (y : AV), r[j]? = some y → ∃ u, (madeCells z.cells (m * q.2.1))[a * q.2.1 + j]? = some u ∧ V w φ G h y u := by
 intro a r hr
 obtain ⟨i', z', hi', hz', _, _, hzc⟩ := hq.info
 rw [hi] at hi'; injection hi' with hi'; subst hi'
 rw [hz] at hz'; injection hz' with hz'; subst hz'
 rw [lrep_eq] at hr
 have ha : a < k := by have := (List.getElem?_eq_some_iff.1 hr).1; simpa using this
 rw [List.getElem?_replicate, if_pos ha] at hr
 injection hr with hr
 subst hr
 refine ⟨hq.len, fun j y hy => ?_⟩
 have hj : j < q.2.1 := by rw [← hq.len]; exact (List.getElem?_eq_some_iff.1 hy).1
 rw [hzc] at hy
 obtain ⟨u, h1, h2⟩ := (of_cells (w := w) (φ := φ) (G := G) (h := h) z).at j y hy
 refine ⟨u, ?_, h2⟩
 have hzs : z.cells.size = q.2.1 := by
  have := (of_cells (w := w) (φ := φ) (G := G) (h := h) z).length
  rw [← hzc, hq.len] at this
  simpa using this.symm
 have hlt := place_lt (sz := q.2.1) (i := a) (j := j) (m := m) hj (by omega)
 unfold madeCells
 rw [Array.getElem?_map, Array.getElem?_range, if_pos hlt, Option.map_some, hzs, Nat.mul_comm a, Nat.mul_add_mod, Nat.mod_eq_of_lt hj]
 congr 1
 rw [Array.getElem?_toList] at h1
 rw [getElem!_def, h1]
theorem run_append_make {t tx ty e : TypeId} {i : TypeInfo} {z : Value} {kx : IntKind} (ht : P.underlying t = some (.slice e)) (htx : P.underlying tx = some (.int kx)) (hi : P.info? e = some i) (hz : i.zero = some z) {base : Option Addr} {j : IntKind} {n : Nat}
  (hold : (Builtin.firstCells i.size 0 (.slice base 0 0)).run P w.drew = .ok #[] w.drew) (hn : 0 < n) (hs : 0 < i.size) (h63 : ((0 + n : Nat) : Int) ≤ 9223372036854775807) (hb : (n : Int) * i.bytes ≤ 281474976710656) (hfit : Builtin.nextslicecap (0 + n) 0 * i.bytes ≤ 281474976710656) :
  (Builtin.append_ #[t, tx] ty #[.slice base 0 0, .int j (.ofNat n)]).run P w =
   .ok (.slice (some ⟨w.heap.size, 0, none⟩) n (grownCap w n 0 e)) (w.drew.alloc (.cells (Builtin.zeroCells z.cells n ++ Builtin.zeroCells z.cells (grownCap w n 0 e - n)) e)) := by
 have hw : IntKind.i64.wrap (n : Int) = n := wrap_i64_of _ (by omega) (by omega)
 have h1 : ¬ ((n : Int) < 0) := by omega
 have h2 : ¬ (281474976710656 < (n : Int) * i.bytes) := by omega
 have h3 : ¬ (n * i.size = 0) := by
  intro e
  rcases Nat.mul_eq_zero.1 e with e | e <;> omega
 have h4 : ¬ (n ≤ 0) := by omega
 have h5 : ¬ (9223372036854775807 < (n : Int)) := by omega
 rw [Nat.zero_add] at hfit
 have h6 : ¬ (281474976710656 < Builtin.nextslicecap n 0 * i.bytes) := by omega
 have h7 : n ≠ 0 := by omega
 have h8 : i.size ≠ 0 := by omega
 simp [Builtin.append_, run_underlying ht, run_underlying htx, sizeOf, typeInfo, zeroValue, hi, hz, hw, h1, h2, h3, h4, h5, h6, h7, h8, Question.forced, hold, newRow, grownCap, asInt, asIntOf]
theorem appMk_v [Env] (hr : HRel G h w φ) (hid : φ id = none) (hle : id ≤ h.next) {ty uy ot : TypeId} {x y : AV} {u v : Value} (hu : isIntT P uy = true) (hx : V w φ G h x u) (hy : V w φ G h y v) {k : AV → Heap → Prop} (hk : appMk P False h id ty x y k) :
  ∃ av h', k av h' ∧ Makes P G h w φ id (Builtin.append_ #[ty, uy] ot #[u, v]) av h' := by
 have hux : ∃ kx, P.underlying uy = some (.int kx) := by
  unfold isIntT undOf at hu
  split at hu
  ·rename_i kx h1; exact ⟨kx, h1⟩
  ·cases hu
 obtain ⟨kx, hux⟩ := hux
 have key : ∀ base : Option Addr, u = .slice base 0 0 → (on False (slOf P ty) fun q => on False (natOf y) fun n => bi (Nat.blt 0 n && Nat.ble n most && Nat.ble (bytesOf P q.1) (2 ^ 20)) (k (appN id q.2.1 n) (h.new id (.cells q.2.1 (lrep q.2.2 n)))) False) →
   ∃ av h', k av h' ∧ Makes P G h w φ id (Builtin.append_ #[ty, uy] ot #[u, v]) av h' := by
  intro base hu hk
  subst hu
  obtain ⟨q, hq, hk1⟩ := on_prop hk
  obtain ⟨n, hn, hk2⟩ := on_prop hk1
  obtain ⟨h1, hk3⟩ := bi_prop hk2
  rw [Bool.and_eq_true, Bool.and_eq_true] at h1
  have h2 := blt_iff.1 h1.1.1
  have h3 := ble_iff.1 h1.1.2
  have h4 := ble_iff.1 h1.2
  have hq := slOf_some hq
  obtain ⟨i, z, hi, hz, hsz, hb, hzc⟩ := hq.info
  obtain ⟨j, rfl⟩ := natOf_some hn
  have hy := V_i.1 hy
  subst hy
  have hmm : most = 33554432 := rfl
  have hbm : n * i.bytes ≤ 33554432 * 1048576 := Nat.mul_le_mul (by omega) (by omega)
  obtain ⟨f1, f2⟩ := fits (len := 0) (n := n) (sCap := 0) (Nat.zero_le _) h3 h4 (by omega)
  have hold : (Builtin.firstCells q.2.1 ([] : List (List AV)).length (.slice base ([] : List (List AV)).length 0)).run P w.drew = Result.ok (([] : List Value).toArray) w.drew :=
   olds_of (w := w) hq.pos (VEl.nil (w := w) (φ := φ) (bad := BadOf G h φ) q.2.1) (fun e => absurd rfl e) (fun a e j v hj => by simp at hj)
  rw [← hsz] at hold
  have hrun := run_append_make (P := P) (w := w) (ty := ot) (j := j) hq.und hux hi hz hold h2 (by rw [hsz]; exact hq.pos) f1 (by rw [← Int.natCast_mul]; omega) (by rw [hb]; exact f2)
  have hge := grownCap_ge w n 0 q.1
  have hzs : z.cells.size = q.2.1 := by
   have := (of_cells (w := w) (φ := φ) (G := G) (h := h) z).length
   rw [← hzc, hq.len] at this
   simpa using this.symm
  have hsize : (Builtin.zeroCells z.cells n ++ Builtin.zeroCells z.cells (grownCap w n 0 q.1 - n)).size = grownCap w n 0 q.1 * q.2.1 := by
   rw [Array.size_append, size_zeroCells, size_zeroCells, hzs, ← Nat.add_mul]
   congr 1; omega
  have t1 := turn_drew (id := id) hr
  have hel := zero_el (w := w.drew) (φ := φ) (G := G) (h := h) hq hi hz n n (Nat.le_refl _)
  have t2 := turn_new t1.rel hid hle (sz := q.2.1) (el := lrep q.2.2 n) (c := Builtin.zeroCells z.cells n ++ Builtin.zeroCells z.cells (grownCap w n 0 q.1 - n)) (ty := q.1)
   (by rw [hsize, lrep_eq, List.length_replicate]; exact Nat.mul_le_mul_right _ hge) (fun a r hr' => by
    refine ⟨(hel a r hr').1, fun jj y hy => ?_⟩
    obtain ⟨u, h5, h6⟩ := (hel a r hr').2 jj y hy
    refine ⟨u, ?_, h6⟩
    have e1 : (Builtin.zeroCells z.cells n)[a * q.2.1 + jj]? = some u := by rw [← h5, ← hzs]; rfl
    have hlt := (Array.getElem?_eq_some_iff.1 e1).1
    rw [Array.getElem?_append, if_pos hlt]
    exact e1)
  refine ⟨_, _, hk3, _, _, _, hrun, ?_, t1.trans t2⟩
  unfold V appN
  rw [VRep]
  refine ⟨w.heap.size, _, _, grownCap w n 0 q.1, by unfold Phi.set; rw [if_pos rfl]; rfl, rfl, hge, hge, (fun e => by cases e), fun _ => ⟨by simp, ?_⟩⟩
  rw [hsize]; simp
 unfold V at hx
 cases x with
 | nsl => rw [VRep] at hx; exact key none hx hk
 | es => rw [VRep] at hx; obtain ⟨a, hx⟩ := hx; exact key a hx hk
 | _ => exact hk.elim
theorem appR_v [Env] (hr : HRel G h w φ) {ty uy ot : TypeId} {x y : AV} {u v : Value} (hx : V w φ G h x u) (hy : V w φ G h y v) {k : AV → Heap → Prop} (hk : appR P False h ty uy x y k) :
  ∃ av h', k av h' ∧ Makes P G h w φ id (Builtin.append_ #[ty, uy] ot #[u, v]) av h' := by
 obtain ⟨q, hq, hk⟩ := on_prop hk
 obtain ⟨hb, hk⟩ := bi_prop hk
 obtain ⟨ey, huy⟩ := isSlT_of hb
 have hq := slOf_some hq
 obtain ⟨src, sb, sc, news, hk, rfl, _, hv2, hb2, hc2⟩ := elems_v hr hq.pos hy hk
 obtain ⟨i, z, hi, hz, hsz, hbb, hzc⟩ := hq.info
 have hx0 := hx
 cases x with
 | sl b s st len cp full =>
  cases full with
  | true => exact hk.elim
  | false =>
  obtain ⟨h3, hk2⟩ := bi_prop (c := Nat.beq s q.2.1 && onesAll src) hk
  rw [Bool.and_eq_true] at h3
  have h4 := beq_iff.1 h3.1
  subst h4
  cases hg : h.get b with
  | cells s' el =>
   rw [hg] at hk2
   obtain ⟨h6, hk3⟩ := bi_prop hk2
   rw [Bool.and_eq_true, Bool.and_eq_true, Bool.or_eq_true] at h6
   have hs := src_of (P := P) (w := w) (c := sc) hq.pos huy hv2 h3.2 hb2 hc2
   have hz : 0 < len ∨ st = 0 := h6.1.1.imp blt_iff.1 beq_iff.1
   have h7 := ble_iff.1 h6.1.2
   have h8 := ble_iff.1 h6.2
   rw [llen_eq] at h7 h8 hk3
   rw [llen_eq] at h8
   unfold V at hx
   rw [VRep] at hx
   obtain ⟨cb, n, a, m, hφ, rfl, c1, c2, _, e2⟩ := hx
   obtain ⟨rfl, hcap⟩ := e2 hz
   have hraw := Heap.get_raw hg (by intro e; cases e)
   have hss : s' = q.2.1 := by
    have hne : h.raw b ≠ .none := by rw [hraw]; intro e; cases e
    obtain ⟨_, _, hbr⟩ := hr.blk b cb q.2.1 n hne hφ
    rw [hraw] at hbr
    exact hbr.1
   subst hss
   obtain ⟨c, et, hw, hfit, ht⟩ := turn_splice (id := id) hr hraw hφ hv2 (s := st + len) h8
   rw [lapp_eq, lapp_eq, ltake_eq, ldrop_eq] at hk3
   rw [Nat.add_mul] at hfit ht
   have hrun := run_append_room (P := P) (w := w) (ty := ot) (off := st * q.2.1) (sLen := len) (sCap := m) hq.und hi hw (by rw [hsz]; exact hs) (by omega) (by rw [hsz]; exact hfit)
   rw [hsz] at hrun
   refine ⟨_, _, hk3, _, _, φ, hrun, ?_, ht⟩
   unfold V
   rw [VRep]
   exact ⟨cb, n, _, m, hφ, rfl, c1, by omega, (fun e => by cases e), fun _ => ⟨rfl, hcap⟩⟩
  | none => rw [hg] at hk2; exact hk2.elim
  | iter _ _ _ => rw [hg] at hk2; exact hk2.elim
  | map _ => rw [hg] at hk2; exact hk2.elim
 | _ => exact hk.elim
theorem makeSlice_v [Env] (hr : HRel G h w φ) (hid : φ id = none) (hle : id ≤ h.next) {ty : TypeId} {l c : AV} {u v : Value} (hl : V w φ G h l u) (hc : V w φ G h c v) {k : AV → Heap → Prop} (hk : makeSliceA P False h id ty l c k) :
  ∃ av h', k av h' ∧ Makes P G h w φ id (Instr.makeSlice ty u v) av h' := by
 obtain ⟨q, hq, hk⟩ := on_prop hk
 obtain ⟨n, hn, hk⟩ := on_prop hk
 obtain ⟨m, hm, hk⟩ := on_prop hk
 obtain ⟨h1, hk9⟩ := bi_prop (c := Nat.ble n m && Nat.ble m most && Nat.ble (bytesOf P q.1) (2 ^ 20)) hk
 rw [Bool.and_eq_true, Bool.and_eq_true] at h1
 have h2 := ble_iff.1 h1.1.1
 have h3 := ble_iff.1 h1.1.2
 have h4 := ble_iff.1 h1.2
 have hq := slOf_some hq
 obtain ⟨i, z, hi, hz, hsz, hb, hzc⟩ := hq.info
 obtain ⟨jl, rfl⟩ := natOf_some hn
 obtain ⟨jc, rfl⟩ := natOf_some hm
 have hl := V_i.1 hl
 have hc := V_i.1 hc
 subst hl hc
 have hmm : most = 33554432 := rfl
 have hbm : i.bytes * m ≤ 1048576 * 33554432 := Nat.mul_le_mul (by omega) (by omega)
 have hrun := run_make (P := P) w ty q.1 i z hq.und hi hz jl jc (.ofNat n) (.ofNat m) (by simp) (by simpa using h2) (by
  have : ((i.bytes * m : Nat) : Int) ≤ 281474976710656 := by omega
  rwa [Int.natCast_mul] at this) (by simp; omega)
 simp only [Int.ofNat_eq_natCast, Int.toNat_natCast, hsz] at hrun
 refine ⟨_, _, hk9, _, _, _, hrun, ?_, turn_new hr hid hle (ty := q.1) (by rw [size_madeCells, lrep_eq, List.length_replicate]; exact Nat.mul_le_mul_right _ h2) (zero_el hq hi hz m n h2)⟩
 unfold V
 rw [VRep]
 exact ⟨w.heap.size, _, _, m, by unfold Phi.set; rw [if_pos rfl], rfl, h2, h2, fun e => (beq_iff.1 e).symm, fun _ => ⟨by simp, by rw [size_madeCells]; simp⟩⟩
theorem fillE_v [Env] (ho : ∀ x, V w φ G h (ρ x) (e x)) (sz len : Nat) {k : List (List AV) → Prop} :
  ∀ (ps : List (Nat × Operand)) (el : List (List AV)) (cs : Array Value), VEl w φ (BadOf G h φ) sz el cs.toList → el.length = len → fillE False sz len ρ k ps el →
   ∃ el' cs', k el' ∧ VEl w φ (BadOf G h φ) sz el' cs'.toList ∧ el'.length = len ∧ Instr.fill (fun i => some (i * sz, sz)) cs (ps.map fun p => (p.1, e p.2)) = some cs'
 | [], el, cs, hv, hl, hk => ⟨el, cs, hk, hv, hl, rfl⟩
 | p :: ps, el, cs, hv, hl, hk => by
  have hk' : on False (ucells (ρ p.2)) fun c => bi (lhas c sz && Nat.blt p.1 len) (fillE False sz len ρ k ps (lset el c p.1)) False := hk
  obtain ⟨c, h2, hk'⟩ := on_prop hk'
  obtain ⟨h3, hk'⟩ := bi_prop hk'
  rw [Bool.and_eq_true] at h3
  obtain ⟨h4, _⟩ := ucells_v (ho p.2) h2
  have h5 := lhas_iff.1 h3.1
  have h6 := blt_iff.1 h3.2
  have hsz : (e p.2).cells.size = sz := by rw [← h5, h4.length]; simp
  have hlen := hv.len
  have hfit : p.1 * sz + sz ≤ cs.size := by
   have : (p.1 + 1) * sz ≤ el.length * sz := Nat.mul_le_mul_right _ (by omega)
   rw [Nat.succ_mul] at this
   rw [← hlen] at this
   simpa using this
  have hfit' : p.1 * sz + (e p.2).cells.toList.length ≤ cs.size := by simpa [hsz] using hfit
  rw [List.map_cons, fill_step _ cs p.1 (e p.2) _ (p.1 * sz) sz rfl hsz hfit]
  refine fillE_v ho sz len ps _ _ ⟨?_, fun a r har => ?_⟩ (by rw [lset_eq, List.length_set]; exact hl) hk'
  ·rw [lset_eq, List.length_set, ← hlen]
   have := size_splice cs (e p.2).cells.toList (p.1 * sz) hfit'
   simp only [Array.length_toList] at this ⊢
   rw [hsz] at this
   exact this
  ·rw [lset_eq, List.getElem?_set] at har
   have hg : ∀ k, (cs.toList.take (p.1 * sz) ++ (e p.2).cells.toList ++ cs.toList.drop (p.1 * sz + sz))[k]? = if p.1 * sz ≤ k ∧ k < p.1 * sz + sz then (e p.2).cells.toList[k - p.1 * sz]? else cs[k]? := by
    intro k
    have := get_splice cs (e p.2).cells.toList (p.1 * sz) k hfit'
    rw [List.getElem?_toArray] at this
    simp only [Array.length_toList, hsz] at this
    exact this
   by_cases hia : p.1 = a
   ·subst hia
    rw [if_pos rfl, if_pos (by omega)] at har
    injection har with har
    subst har
    refine ⟨h5, fun j y hy => ?_⟩
    obtain ⟨u, h7, h8⟩ := h4.at j y hy
    have hj : j < sz := by rw [← h5]; exact (List.getElem?_eq_some_iff.1 hy).1
    refine ⟨u, ?_, h8⟩
    rw [hg, if_pos (by omega), ← h7]
    congr 1; omega
   ·rw [if_neg hia] at har
    obtain ⟨h7, h8⟩ := hv.at' a r har
    refine ⟨h7, fun j y hy => ?_⟩
    obtain ⟨u, h9, h10⟩ := h8 j y hy
    have hj : j < sz := by rw [← h7]; exact (List.getElem?_eq_some_iff.1 hy).1
    refine ⟨u, ?_, h10⟩
    rw [hg, if_neg, ← h9]
    ·simp
    ·intro hc
     exact hia (place_inj (i := p.1) (j := a * sz + j - p.1 * sz) (i' := a) (j' := j) (sz := sz) (by omega) hj (by omega)).1
theorem buildSlice_v [Env] (hr : HRel G h w φ) (ho : ∀ x, V w φ G h (ρ x) (e x)) (hid : φ id = none) (hle : id ≤ h.next) {ty : TypeId} {len : Nat} {ps : Array (Nat × Operand)} {k : AV → Heap → Prop} (hk : buildSliceA P False h id ty len ρ ps.toList k) :
  ∃ av h', k av h' ∧ Makes P G h w φ id (Instr.buildSlice ty len (ps.map fun (i, x) => (i, e x))) av h' := by
 obtain ⟨q, hq, hk⟩ := on_prop hk
 obtain ⟨h1, hk⟩ := bi_prop hk
 have h1 := ble_iff.1 h1
 have hq := slOf_some hq
 obtain ⟨i, z, hi, hz, hsz, hb, hzc⟩ := hq.info
 have hz0 := zero_el (w := w) (φ := φ) (G := G) (h := h) hq hi hz len len (Nat.le_refl _)
 obtain ⟨el, cs, hk, hv, hl, hf⟩ := fillE_v ho q.2.1 len ps.toList (lrep q.2.2 len) (madeCells z.cells (len * q.2.1)) ⟨by rw [lrep_eq]; simp [size_madeCells], fun a r hr => ⟨(hz0 a r hr).1, fun j y hy => by
  obtain ⟨u, h3, h4⟩ := (hz0 a r hr).2 j y hy
  exact ⟨u, by simpa using h3, h4⟩⟩⟩ (by rw [lrep_eq]; simp) hk
 have hcs : cs.size = len * q.2.1 := by have := hv.len; rw [hl] at this; simpa using this
 have hrun : (Instr.buildSlice ty len (ps.map fun (i, x) => (i, e x))).run P w = .ok (.slice (some ⟨w.heap.size, 0, none⟩) len len) (w.alloc (.cells cs q.1)) := by
  by_cases hpos : len * q.2.1 = 0
  ·have hmz : madeCells z.cells (len * q.2.1) = #[] := by rw [hpos]; unfold madeCells; simp
   rw [hmz] at hf
   have hf' : Instr.fill (fun i => some (i * q.2.1, q.2.1)) #[] (ps.map fun (i, x) => (i, e x)).toList = some cs := by rw [Array.toList_map]; exact hf
   simp [Instr.buildSlice, run_underlying hq.und, sizeOf, typeInfo, zeroValue, hi, hz, hsz, hpos, newRow] at hf' ⊢
   have h0 : Array.map (fun x : Nat => (default : Value)) (Array.range 0) = #[] := by simp
   rw [h0, hf']
   simp
  ·refine run_buildSlice (P := P) w ty q.1 len _ cs i z hq.und hi hz (by rw [hsz]; omega) (by rw [hsz]; exact hpos) ?_
   rw [Array.toList_map, hsz]
   exact hf
 refine ⟨_, _, hk, _, _, _, hrun, ?_, turn_new hr hid hle (ty := q.1) (by rw [hl, hcs]; exact Nat.le_refl _) (fun a r hr => ⟨(hv.at' a r hr).1, fun j y hy => by
  obtain ⟨u, h3, h4⟩ := (hv.at' a r hr).2 j y hy
  exact ⟨u, by simpa using h3, h4⟩⟩)⟩
 unfold V
 rw [VRep]
 exact ⟨w.heap.size, _, _, len, by unfold Phi.set; rw [if_pos rfl], rfl, Nat.le_refl _, Nat.le_refl _, fun _ => rfl, fun _ => ⟨by simp, by rw [hcs]; simp⟩⟩
theorem slLen_v {x : AV} {u : Value} {n : Nat} (hx : V w φ G h x u) (hl : slLen x = some n) : ∃ a c, u = .slice a n c ∧ n ≤ c := by
 unfold V at hx
 cases x <;> first | (cases hl; done) | skip
 ·cases hl; rw [VRep] at hx; exact ⟨none, 0, hx, Nat.le_refl _⟩
 ·cases hl; rw [VRep] at hx; obtain ⟨a, rfl⟩ := hx; exact ⟨a, 0, rfl, Nat.le_refl _⟩
 ·cases hl; rw [VRep] at hx; obtain ⟨cb, n', a, m, _, rfl, _, h2, _⟩ := hx; exact ⟨a, m, rfl, h2⟩
 ·rename_i s f el
  have hl : some (llen el) = some n := hl
  injection hl with hl
  rw [llen_eq] at hl
  subst hl
  rw [VRep, FRep] at hx
  obtain ⟨a, m, rfl, h2, _⟩ := hx
  exact ⟨a, m, rfl, h2⟩
theorem cut_v {x : AV} {a : Option Addr} {l c n : Nat} (hl : slLen x = some l) (hx : V w φ G h x (.slice a l c)) (hn : n ≤ l) : V w φ G h (cutA x n) (.slice a n c) := by
 unfold V at hx ⊢
 cases x with
 | nsl =>
  rw [VRep] at hx
  cases hx
  obtain rfl : n = 0 := by omega
  show VRep _ _ _ .nsl _
  rw [VRep]
 | es =>
  rw [VRep] at hx
  obtain ⟨a', hx⟩ := hx
  cases hx
  obtain rfl : n = 0 := by omega
  show VRep _ _ _ .es _
  rw [VRep]
  exact ⟨_, rfl⟩
 | sl b s st len cp full =>
  rw [VRep] at hx
  obtain ⟨cb, n', a', m, h1, h2, h3, h4, h5, h6⟩ := hx
  injection h2 with e1 e2 e3
  subst e1 e2 e3
  show VRep _ _ _ (.sl b s st n cp false) _
  rw [VRep]
  exact ⟨cb, n', a, c, h1, rfl, h3, by omega, (fun e => by cases e), fun hh => h6 (hh.imp (fun q => by omega) id)⟩
 | fs s f el =>
  rw [VRep, FRep] at hx
  obtain ⟨a', m, h2, h3, h4, h5⟩ := hx
  injection h2 with e1 e2 e3
  subst e1 e2 e3
  show VRep _ _ _ (.fs s false (ltake el n)) _
  rw [ltake_eq, VRep, FRep]
  refine ⟨a, c, by rw [List.length_take, Nat.min_eq_left hn], by rw [List.length_take]; omega, (fun e => by cases e), fun hne => ?_⟩
  obtain ⟨b, off, h6, h7⟩ := h5 (by intro e; subst e; simp at hne)
  refine ⟨b, off, h6, FEls.of_at s b _ off fun i e he => FEls.at s b _ off h7 i e ?_⟩
  rw [List.getElem?_take] at he
  by_cases hi : i < n
  ·rw [if_pos hi] at he; exact he
  ·rw [if_neg hi] at he; cases he
 | _ => cases hl
theorem run_copyS {t tx ty e : TypeId} {i : TypeInfo} (ht : P.underlying t = some (.slice e)) (hi : P.info? e = some i) {g off dLen dCap L n : Nat} {cur : Array Value} {et : TypeId} {sb : Option Addr} {sc : Nat} {news : List Value}
  (hg : w.heap[g]? = some (.cells cur et (0, 0))) (hn : Nat.min L dLen = n) (hs : Src P i.size tx (.slice sb n sc) n news w) (hfit : off + news.length ≤ cur.size) :
  (Builtin.copy_ #[t, tx] ty #[.slice (some ⟨g, off, none⟩) dLen dCap, .slice sb L sc]).run P w =
   .ok (goInt n) (w.setRow g (cur.toList.take off ++ news ++ cur.toList.drop (off + news.length)).toArray) := by
 have hst := run_storeCells_at P g off et news 0 cur w hg (by simpa using hfit) hs.one
 simp only [Nat.add_zero] at hst
 have hc : (Builtin.firstCells i.size n (.slice sb L sc)).run P w = .ok news.toArray w := by
  have := hs.cells
  cases sb <;> exact this
 simp [Builtin.copy_, run_underlying ht, Builtin.lenOf, sizeOf, typeInfo, hi, hn, hc, hst]
theorem copy_v [Env] (hr : HRel G h w φ) {ty uy ot : TypeId} {x y : AV} {u v : Value} (hx : V w φ G h x u) (hy : V w φ G h y v) {k : AV → Heap → Prop} (hk : bi (isSlT P uy) (copyA P False h ty x y k) False) :
  ∃ av h', k av h' ∧ Makes P G h w φ id (Builtin.copy_ #[ty, uy] ot #[u, v]) av h' := by
 obtain ⟨hu, hk⟩ := bi_prop hk
 obtain ⟨ey, huy⟩ := isSlT_of hu
 obtain ⟨q, hq, hk⟩ := on_prop hk
 obtain ⟨m, hm, hk⟩ := on_prop hk
 obtain ⟨n0, hn0, hk⟩ := on_prop hk
 have hq := slOf_some hq
 obtain ⟨da, dc, rfl, _⟩ := slLen_v hx hm
 obtain ⟨sb, sc, rfl, _⟩ := slLen_v hy hn0
 have hmin : bi (Nat.ble n0 m) n0 m = Nat.min n0 m := by
  cases hb : Nat.ble n0 m with
  | true => have := ble_iff.1 hb; show n0 = _; exact (Nat.min_eq_left this).symm
  | false =>
   have : m ≤ n0 := by
    by_cases hle : n0 ≤ m
    ·rw [ble_iff.2 hle] at hb; cases hb
    ·omega
   show m = _
   exact (Nat.min_eq_right this).symm
 rw [hmin] at hk
 obtain ⟨src, sb', sc', news, hk, heq, _, hv2, hb2, hc2⟩ := elems_v hr hq.pos (cut_v hn0 hy (Nat.min_le_left _ _)) hk
 injection heq with e1 e2 e3
 subst e1 e3
 obtain ⟨i, z, hi, hz, hsz, hbb, hzc⟩ := hq.info
 unfold putC at hk
 cases hz0 : Nat.beq (Nat.min n0 m) 0 with
 | true =>
  have h0 := beq_iff.1 hz0
  rw [hz0, bi_true] at hk
  refine ⟨_, _, hk, .int .i64 0, w, φ, ?_, by unfold V; rw [VRep]; rfl, Turn.refl id hr⟩
  have hc : (Builtin.firstCells i.size 0 (.slice sb n0 sc)).run P w = .ok #[] w := by
   cases sb with
   | none => simp [Builtin.firstCells]
   | some a => simp [Builtin.firstCells, loadCells]; rfl
  cases da with
  | none => simp [Builtin.copy_, run_underlying hq.und, Builtin.lenOf, sizeOf, typeInfo, hi, h0, hc]; rfl
  | some d => simp [Builtin.copy_, run_underlying hq.und, Builtin.lenOf, sizeOf, typeInfo, hi, h0, hc, storeCells]; rfl
 | false =>
  rw [hz0, bi_false] at hk
  cases x with
  | sl b s st len cp full =>
   obtain ⟨h3, hk2⟩ := bi_prop (c := Nat.beq s q.2.1 && onesAll src && Nat.beq (llen src) (Nat.min n0 m)) hk
   rw [Bool.and_eq_true, Bool.and_eq_true] at h3
   have h4 := beq_iff.1 h3.1.1
   subst h4
   cases hg : h.get b with
   | cells s' el =>
    rw [hg] at hk2
    obtain ⟨h6, hk3⟩ := bi_prop hk2
    have h8 := ble_iff.1 h6
    rw [llen_eq] at h8
    have hpos : 0 < Nat.min n0 m := by
     rcases Nat.eq_zero_or_pos (Nat.min n0 m) with e | e
     ·rw [e] at hz0; cases hz0
     ·exact e
    have hs := src_of (P := P) (w := w) (c := sc) hq.pos huy hv2 h3.1.2 hb2 hc2
    rw [← e2] at hs
    unfold V at hx
    rw [VRep] at hx
    obtain ⟨cb, n, a, mm, hφ, hval, c1, c2, _, e5⟩ := hx
    injection hval with v1 v2 v3
    subst v1 v2 v3
    obtain ⟨rfl, hcap⟩ := e5 (.inl (Nat.lt_of_lt_of_le hpos (Nat.min_le_right _ _)))
    have hraw := Heap.get_raw hg (by intro e; cases e)
    have hss : s' = q.2.1 := by
     have hne : h.raw b ≠ .none := by rw [hraw]; intro e; cases e
     obtain ⟨_, _, hbr⟩ := hr.blk b cb q.2.1 n hne hφ
     rw [hraw] at hbr
     exact hbr.1
    subst hss
    have h8' : st + src.length ≤ el.length := by rw [← e2]; exact h8
    obtain ⟨c, et, hw, hfit, ht⟩ := turn_splice (id := id) hr hraw hφ hv2 (s := st) h8'
    rw [lapp_eq, lapp_eq, ltake_eq, ldrop_eq] at hk3
    have hrun := run_copyS (P := P) (w := w) (ty := ot) (off := st * q.2.1) (dLen := m) (dCap := dc) (L := n0) (n := Nat.min n0 m) hq.und hi hw rfl (by rw [hsz]; exact hs) hfit
    refine ⟨_, _, hk3, _, _, φ, hrun, ?_, by rw [← e2] at ht; exact ht⟩
    unfold V
    rw [VRep]
    rfl
   | none => rw [hg] at hk2; exact hk2.elim
   | iter _ _ _ => rw [hg] at hk2; exact hk2.elim
   | map _ => rw [hg] at hk2; exact hk2.elim
  | _ => exact hk.elim
theorem capT_ok {c m : Nat} (h : c ≤ m) : XOK (capT c) (.i .i64 (m : Int)) := by
 have key : ∀ n, n ≤ m + 1 → XOK (Nat.rec (motive := fun _ => XT) .nil (fun n ih => .bin .lss .i64 (.ofNat n) (.bl false) ih) n) (.i .i64 (m : Int)) := by
  intro n
  induction n with
  | zero => intro _; show XOK .nil _; rw [XOK]; trivial
  | succ n ih =>
   intro hn
   show XOK (.bin .lss .i64 (.ofNat n) (.bl false) _) _
   rw [XOK]
   refine ⟨⟨.i64, _, .b (ilt (m : Int) (.ofNat n)), rfl, rfl, ?_⟩, ih (by omega)⟩
   rw [XOK]
   have : ilt (m : Int) (.ofNat n) = false := by
    show Nat.blt m n = false
    cases hb : Nat.blt m n with
    | false => rfl
    | true => have := blt_iff.1 hb; omega
   rw [this]
 exact key (c + 1) (by omega)
theorem cap_v [Env] {ty ty' : TypeId} {x : AV} {u : Value} {k : AV → Prop} (hx : V w φ G h x u) (hk : bi (isSlT P ty) (capN False x k) False) : ∃ av, k av ∧ Yields P w φ G h (Builtin.cap_ #[ty] ty' #[u]) av := by
 obtain ⟨h1, hk⟩ := bi_prop hk
 obtain ⟨et, hd⟩ := isSlT_of h1
 have run : ∀ {a : Option Addr} {n c : Nat}, k (.i .i64 (.ofNat c)) → ∃ av, k av ∧ Yields P w φ G h (Builtin.cap_ #[ty] ty' #[.slice a n c]) av := fun {a n c} hk =>
  ⟨_, hk, _, by simp [Builtin.cap_, run_underlying hd]; rfl, by unfold V; rw [VRep]; rfl⟩
 unfold V at hx
 cases x with
 | nsl => rw [VRep] at hx; subst hx; exact run hk
 | es => rw [VRep] at hx; obtain ⟨a, rfl⟩ := hx; exact run hk
 | fs s full el =>
  obtain ⟨h2, hk2⟩ := bi_prop (c := full) hk
  rw [VRep, FRep] at hx
  obtain ⟨a, n, rfl, _, h3, _⟩ := hx
  have := h3 h2
  rw [llen_eq, ← this] at hk2
  exact run hk2
 | sl b s st len cp full =>
  rw [VRep] at hx
  obtain ⟨cb, n, a, m, _, rfl, hcm, _, h3, _⟩ := hx
  cases full with
  | true =>
   have := h3 rfl
   have hk2 : k (.i .i64 (.ofNat len)) := hk
   rw [← this] at hk2
   exact run hk2
  | false =>
   have hk2 : k (.xi .i64 0 (capT cp)) := hk
   refine ⟨_, hk2, .int .i64 (m : Int), by simp [Builtin.cap_, run_underlying hd]; rfl, ?_⟩
   unfold V
   rw [VRep]
   exact ⟨_, rfl, capT_ok hcm⟩
 | _ => exact hk.elim
theorem zero_VEl [Env] {q : TypeId × Nat × List AV} {ty : TypeId} (hq : SlTy P ty q) {z : Value} {i : TypeInfo} (hi : P.info? q.1 = some i) (hz : i.zero = some z) (n : Nat) (hzs : z.cells.size = q.2.1) : VEl w φ (BadOf G h φ) q.2.1 (lrep q.2.2 n) (Builtin.zeroCells z.cells n).toList := by
 refine ⟨?_, fun a r hr => ?_⟩
 ·rw [Array.length_toList, size_zeroCells, lrep_eq, List.length_replicate, hzs]
 ·have := zero_el (w := w) (φ := φ) (G := G) (h := h) hq hi hz n n (Nat.le_refl _) a r hr
  refine ⟨this.1, fun j y hy => ?_⟩
  obtain ⟨u, h1, h2⟩ := this.2 j y hy
  refine ⟨u, ?_, h2⟩
  rw [Array.getElem?_toList, ← h1, ← hzs]
  rfl
theorem clear_v [Env] (hr : HRel G h w φ) {ty ty' : TypeId} {x : AV} {u : Value} {k : AV → Heap → Prop} (hx : V w φ G h x u) (hk : on False (slOf P ty) fun q => clearN False h q.2.1 q.2.2 x fun h => k (.tup []) h) :
  ∃ av h', k av h' ∧ Makes P G h w φ id (Builtin.clear_ #[ty] ty' #[u]) av h' := by
 obtain ⟨q, hq, hk⟩ := on_prop hk
 have hq := slOf_some hq
 have tup : ∀ {w : World} {φ : Phi} {h : Heap}, V w φ G h (.tup []) (.tuple #[]) := by intro w φ h; unfold V; rw [VRep]; exact ⟨#[], rfl, by rw [VReps]⟩
 have hx0 := hx
 unfold V at hx
 cases x with
 | nsl =>
  rw [VRep] at hx; subst hx
  exact ⟨_, _, hk, _, w, φ, by simp [Builtin.clear_, run_underlying hq.und], tup, Turn.refl id hr⟩
 | es =>
  rw [VRep] at hx; obtain ⟨a, rfl⟩ := hx
  exact ⟨_, _, hk, _, w, φ, by cases a <;> simp [Builtin.clear_, run_underlying hq.und], tup, Turn.refl id hr⟩
 | sl b s st len cp full =>
  obtain ⟨h1, hk2⟩ := bi_prop (c := Nat.beq s q.2.1) hk
  have := beq_iff.1 h1
  subst this
  rw [VRep] at hx
  obtain ⟨cb, n, a, m, hφ, rfl, c1, c2, _, e2⟩ := hx
  cases h3 : Nat.beq len 0 with
  | true =>
   have hk2b : bi (Nat.beq len 0) (k (.tup []) h) _ := hk2
   rw [h3] at hk2b
   have := beq_iff.1 h3
   subst this
   exact ⟨_, _, hk2b, _, w, φ, by cases a <;> simp [Builtin.clear_, run_underlying hq.und], tup, Turn.refl id hr⟩
  | false =>
   have hpos : 0 < len := by
    rcases Nat.eq_zero_or_pos len with e | e
    ·subst e; cases h3
    ·exact e
   have hk2b : bi (Nat.beq len 0) (k (.tup []) h) (match h.get b with | .cells _ el => bi (Nat.ble (st + len) (llen el)) (k (.tup []) (h.set b (.cells q.2.1 (lapp (ltake el st) (lapp (lrep q.2.2 len) (ldrop el (st + len))))))) False | _ => False) := hk2
   rw [h3, bi_false] at hk2b
   cases hg : h.get b with
   | cells s' el =>
    rw [hg] at hk2b
    obtain ⟨h4, hk3⟩ := bi_prop hk2b
    have h4 := ble_iff.1 h4
    rw [llen_eq] at h4
    obtain ⟨rfl, hcap⟩ := e2 (.inl hpos)
    have hraw := Heap.get_raw hg (by intro e; cases e)
    have hss : s' = q.2.1 := by
     have hne : h.raw b ≠ .none := by rw [hraw]; intro e; cases e
     obtain ⟨_, _, hbr⟩ := hr.blk b cb q.2.1 n hne hφ
     rw [hraw] at hbr
     exact hbr.1
    subst hss
    obtain ⟨i, z, hi, hz, hsz, _, hzc⟩ := hq.info
    have hzs : z.cells.size = q.2.1 := by
     have := (of_cells (w := w) (φ := φ) (G := G) (h := h) z).length
     rw [← hzc, hq.len] at this
     simpa using this.symm
    have hv := zero_VEl (w := w) (φ := φ) (G := G) (h := h) hq hi hz len hzs
    have hll : (lrep q.2.2 len).length = len := by rw [lrep_eq, List.length_replicate]
    obtain ⟨c, et, hw, hfit, ht⟩ := turn_splice (id := id) hr hraw hφ hv (s := st) (by rw [hll]; exact h4)
    rw [lapp_eq, lapp_eq, ltake_eq, ldrop_eq] at hk3
    rw [hll] at ht
    have hone : ∀ v ∈ (Builtin.zeroCells z.cells len).toList, v.oneCell' = true := hv.ones hq.pos (by
     unfold onesAll
     rw [lall_eq, List.all_eq_true]
     intro r hr
     rw [lrep_eq] at hr
     rw [List.eq_of_mem_replicate hr]
     exact hq.ones)
    have hst := run_storeCells_at P cb (st * q.2.1) et (Builtin.zeroCells z.cells len).toList 0 c w hw (by simpa using hfit) hone
    simp only [Nat.add_zero] at hst
    refine ⟨_, _, hk3, _, _, φ, ?_, tup, ht⟩
    obtain ⟨len', rfl⟩ : ∃ m, len = m + 1 := ⟨len - 1, by omega⟩
    simp [Builtin.clear_, run_underlying hq.und, run_zero hi hz, hst]
   | none => rw [hg] at hk2b; exact hk2b.elim
   | iter _ _ _ => rw [hg] at hk2b; exact hk2b.elim
   | map _ => rw [hg] at hk2b; exact hk2b.elim
 | _ => exact hk.elim
end
end Go.Zev

/-
  Maps with integer keys; strings byte by byte: what the operations do.
-/
set_option linter.unusedSimpArgs false
set_option linter.unusedVariables false
namespace Go.Zev
open Go
section
variable {P : Program} {G : Bad} {h h' : Heap} {w w' : World} {φ φ' : Phi} {id : Nat} {o : Oper} {bad : Bad} {e : Operand → Value} {ρ : Operand → AV}
theorem ext_allocO (O : Bad) (w : World) {ob : Obj} (hf : ∀ a : Addr, a.block = w.heap.size → (w.alloc ob).frozen? a = w.frozen? a) : Ext O w (w.alloc ob) :=
 ⟨rfl, rfl, rfl, by simp, fun k hk _ => heap_alloc_old w _ k hk, fun a hlt => by
  unfold World.frozen?
  rw [heap_alloc_old w _ _ hlt]⟩
theorem frozen_map (w : World) (es : Array MapEntry) (c : Nat) (a : Addr) (he : a.block = w.heap.size) : (w.alloc (.map es c)).frozen? a = w.frozen? a := by
 unfold World.frozen?
 have h1 : w.heap[a.block]? = none := Array.getElem?_eq_none (by omega)
 rw [h1, he, heap_alloc_new]
theorem does_makeMap [Env] (hr : HRel G h w φ) (hid : φ id = none) (hle : id ≤ h.next) {t : TypeId} (hop : o.op = .makeMap t none) {k : AV → Heap → Prop} (hk : k (.mp id) (h.new id (.map []))) : ∃ av h', k av h' ∧ Does P G h w φ id o e av h' := by
 refine ⟨_, _, hk, .map (some w.heap.size), w.alloc (.map #[] 0), φ.set id (w.heap.size, 0, 0), .inl ?_, ?_, turn_newO hr hid hle (ext_allocO _ w (frozen_map w #[] 0)) fun w' φ' bad' _ _ hw => ⟨#[], 0, hw, rfl, fun i q hq => by simp at hq⟩⟩
 ·simp only [execOp, hop]
  rfl
 ·rw [VRep]
  exact ⟨w.heap.size, 0, 0, by unfold Phi.set; rw [if_pos rfl], rfl⟩
abbrev World.put (w : World) (cb : Nat) (ob : Obj) : World := { w with heap := w.heap.setIfInBounds cb ob }
theorem put_at {w : World} {cb : Nat} {ob : Obj} (hlt : cb < w.heap.size) : (World.put w cb ob).heap[cb]? = some ob := by
 simp [World.put, Array.getElem?_setIfInBounds, hlt]
theorem put_other {w : World} {cb k : Nat} {ob : Obj} (hk : k ≠ cb) : (World.put w cb ob).heap[k]? = w.heap[k]? := by
 show (w.heap.setIfInBounds cb ob)[k]? = w.heap[k]?
 rw [Array.getElem?_setIfInBounds, if_neg (fun e => hk e.symm)]
theorem turn_setO [Env] (hr : HRel G h w φ) {b cb sz n : Nat} {X X' : Blk} {ob : Obj} (hraw : h.raw b = X) (hX : X ≠ .none) (hφ : φ b = some (cb, sz, n))
  (hf : ∀ a : Addr, a.block = cb → (World.put w cb ob).frozen? a = w.frozen? a)
  (hb : ∀ w' φ' bad', Goes w (BadOf G h φ) w' bad' → PhiLe φ φ' → w'.heap[cb]? = some ob → BRep w' φ' bad' cb sz n X') :
  Turn G h w φ id (h.set b X') (World.put w cb ob) φ := by
 have hne : h.raw b ≠ .none := by rw [hraw]; exact hX
 have hcap := Heap.raw_cap hne
 have hraw' : ∀ k, (h.set b X').raw k = if k = b then X' else h.raw k := by
  intro k
  rw [Heap.raw_set]
  by_cases e : k = b
  ·rw [if_pos ⟨e, hcap⟩, if_pos e]
  ·rw [if_neg (fun x => e x.1), if_neg e]
 have hn' : ∀ k, (h.set b X').raw k ≠ .none → h.raw k ≠ .none := by
  intro k hk
  rw [hraw'] at hk
  by_cases e : k = b
  ·rw [e]; exact hne
  ·rw [if_neg e] at hk; exact hk
 have hO : Own h φ cb := ⟨b, sz, n, hne, hφ⟩
 have hown : ∀ k, Own (h.set b X') φ k → Own h φ k := by
  rintro k ⟨b', s', n', h1, h2⟩
  exact ⟨b', s', n', hn' _ h1, h2⟩
 have hlt : cb < w.heap.size := (hr.blk b cb sz n hne hφ).2.1
 have hext : Ext (Own h φ) w (World.put w cb ob) := ⟨rfl, rfl, rfl, by simp [World.put], fun k hk hno => put_other fun e => hno (e ▸ hO), fun a _ => by
  by_cases he : a.block = cb
  ·exact hf a he
  ·unfold World.frozen?
   rw [put_other he]⟩
 have hgo : Goes w (BadOf G h φ) (World.put w cb ob) (BadOf G (h.set b X') φ) := hext.goes (fun k hk => .inr hk) (fun k _ hb => hb.imp (fun x => x) (hown k))
 have hsz : (World.put w cb ob).heap.size = w.heap.size := by simp [World.put]
 refine ⟨⟨?_, fun b' hb' => hr.has b' (hn' _ hb'), fun b' hb' => by rw [Heap.next_set]; exact hr.lt b' hb', fun k hk => by rw [hsz]; exact hr.gOld k hk, ?_, hr.pins hext fun _ q => q⟩, PhiLe.refl _, fun _ _ _ => rfl, hext, fun k _ => hown k, by rw [Heap.next_set]; exact Nat.le_refl _, Heap.win_set _ _ _⟩
 ·intro b' cb' s' n' hb' hφ'
  obtain ⟨h1, h2, h3⟩ := hr.blk b' cb' s' n' (hn' _ hb') hφ'
  refine ⟨h1, by rw [hsz]; exact h2, ?_⟩
  rw [hraw']
  by_cases e : b' = b
  ·subst e
   rw [if_pos rfl]
   rw [hφ] at hφ'
   injection hφ' with e1; injection e1 with e1 e2; injection e2 with e2 e3
   subst e1 e2 e3
   exact hb _ _ _ hgo (PhiLe.refl _) (put_at hlt)
  ·rw [if_neg e]
   refine h3.mono hgo (PhiLe.refl _) (put_other fun e2 => e ?_)
   subst e2
   exact hr.inj b' b cb' s' n' sz n (hn' _ hb') hne hφ' hφ
 ·intro b1 b2 cb' s n s' n' h1 h2 h3 h4
  exact hr.inj b1 b2 cb' s n s' n' (hn' _ h1) (hn' _ h2) h3 h4
theorem findNow_none (j : IntKind) (n : Int) : ∀ (es : List (AV × AV)) (ents : List MapEntry) (i : Nat), ents.length = es.length → (∀ (i : Nat) (q : AV × AV), es[i]? = some q → ∃ e, ents[i]? = some e ∧ VRep w φ bad q.1 e.key) → lall (keyNe j n) es = true → Instr.findNow (.int j) (.int j n) ents i = some none
 | [], ents, i, hl, _, _ => by
  cases ents with
  | nil => rfl
  | cons => simp at hl
 | q :: es, [], i, hl, _, _ => by simp at hl
 | q :: es, en :: ents, i, hl, hr, hk => by
  have hk' : bi (keyNe j n q) (lall (keyNe j n) es) false = true := hk
  cases hq : keyNe j n q with
  | false => rw [hq] at hk'; cases hk'
  | true =>
   rw [hq] at hk'
   obtain ⟨e0, h1, h2⟩ := hr 0 q rfl
   simp at h1; subst h1
   have ih := findNow_none j n es ents (i + 1) (by simpa using hl) (fun m q' hq' => hr (m + 1) q' (by simpa using hq')) hk'
   unfold keyNe at hq
   split at hq
   ·rename_i l m hqm
    rw [Bool.and_eq_true] at hq
    have e1 := ikEq_iff.1 hq.1
    subst e1
    rw [hqm, VRep] at h2
    unfold Instr.findNow
    rw [h2]
    have hne : (n == m) = false := by
     have := hq.2
     rw [ieq_eq] at this
     simpa using this
    simp only [Instr.sameNow, if_true, hne]
    exact ih
   ·cases hq
theorem mapOfT_some {t : TypeId} {q : IntKind × TypeId} (h : mapOfT P t = some q) : ∃ kt, P.underlying t = some (.map kt q.2) ∧ P.underlying kt = some (.int q.1) := by
 unfold mapOfT at h
 split at h
 ·rename_i kt et h1
  split at h
  ·rename_i j h2
   injection h with h
   subst h
   exact ⟨kt, by simpa [undOf] using h1, by simpa [undOf] using h2⟩
  ·cases h
 ·cases h
theorem does_insert [Env] (hr : HRel G h w φ) (ho : ∀ x, V w φ G h (ρ x) (e x)) {t : TypeId} {m key x : Operand} (hop : o.op = .insert t m key x) {k : AV → Heap → Prop} {call : Call' Prop}
  (hk : evInsert P t m key x False call ρ h id k) : ∃ av h', k av h' ∧ Does P G h w φ id o e av h' := by
 obtain ⟨q, hq, hk⟩ := on_prop (k := fun q : IntKind × TypeId => insertN False h q.1 (ρ m) (ρ key) (ρ x) (k .un)) hk
 obtain ⟨kt, ht, hkt⟩ := mapOfT_some hq
 have hm := ho m
 have hkey := ho key
 have hx := ho x
 unfold insertN at hk
 split at hk
 ·rename_i b hb
  split at hk
  ·rename_i es hg
   split at hk
   ·rename_i l n hkv
    obtain ⟨h1, hk⟩ := bi_prop hk
    rw [Bool.and_eq_true] at h1
    have e1 := ikEq_iff.1 h1.1
    unfold V at hm hkey hx
    rw [hb, VRep] at hm
    obtain ⟨cb, sz, nn, hφ, hme⟩ := hm
    rw [hkv, VRep] at hkey
    have hraw := Heap.get_raw hg (by intro e; cases e)
    have hne : h.raw b ≠ .none := by rw [hraw]; intro e; cases e
    obtain ⟨_, hlt, hbr⟩ := hr.blk b cb sz nn hne hφ
    rw [hraw] at hbr
    obtain ⟨ents, clock, hw, hsz, hent⟩ := hbr
    have hfn := findNow_none (w := w) (φ := φ) (bad := BadOf G h φ) q.1 n es ents.toList 0 (by simpa using hsz) (fun i q hq => by
     obtain ⟨e, q1, q2, _⟩ := hent i q hq
     exact ⟨e, by simpa using q1, q2⟩) h1.2
    refine ⟨_, _, hk, undef, World.put w cb (.map (ents.push { key := .int l n, val := e x, born := clock }) (clock + 1)), φ, .inr ⟨?_, rfl⟩, by rw [VRep]; trivial, turn_setO hr hraw (by intro e; cases e) hφ ?_ ?_⟩
    ·subst e1
     simp [execOp, hop, hme, hkey, Instr.mapUpdate, run_underlying ht, MapKept.run_getObj_map hw, MapKept.run_checkKey hkt (show MapKept.IsKey (.int q.1) (.int q.1 n) from rfl), MapKept.run_findKey hkt hfn, MapKept.run_setObj_map _ hw, Result.andThen]
    ·intro a ha
     unfold World.frozen?
     rw [ha, hw, put_at hlt]
    ·intro w' φ' bad' g hp hw'
     refine ⟨_, _, hw', by rw [lapp_eq]; simp [hsz], fun i q' hq' => ?_⟩
     rw [lapp_eq, List.getElem?_append] at hq'
     by_cases hi : i < es.length
     ·rw [if_pos hi] at hq'
      obtain ⟨e', q1, q2, q3⟩ := hent i q' hq'
      have hi2 : i < ents.size := by omega
      refine ⟨e', by rw [Array.getElem?_push, if_neg (by omega)]; exact q1, VRep.mono g hp _ _ q2, VRep.mono g hp _ _ q3⟩
     ·rw [if_neg hi] at hq'
      have hi0 : i - es.length = 0 := by
       have := (List.getElem?_eq_some_iff.1 hq').1
       simp at this; omega
      rw [hi0] at hq'
      injection hq' with hq'
      subst hq'
      have hie : i = ents.size := by omega
      exact ⟨_, by rw [Array.getElem?_push, if_pos hie], by show VRep _ _ _ (.i l n) _; rw [VRep], VRep.mono g hp _ _ hx⟩
   ·exact hk.elim
  ·exact hk.elim
 ·exact hk.elim
theorem findNow_get (j : IntKind) (n : Int) : ∀ (es : List (AV × AV)) (ents : List MapEntry) (i : Nat) (r : Option AV), ents.length = es.length → (∀ (i : Nat) (q : AV × AV), es[i]? = some q → ∃ e, ents[i]? = some e ∧ VRep w φ bad q.1 e.key ∧ VRep w φ bad q.2 e.val) → keyGet j n es = some r →
  (r = none → Instr.findNow (.int j) (.int j n) ents i = some none) ∧ ∀ v, r = some v → ∃ i' u, Instr.findNow (.int j) (.int j n) ents i = some (some (i', u)) ∧ VRep w φ bad v u
 | [], ents, i, r, hl, _, hk => by
  cases ents with
  | nil =>
   have hk : some (none : Option AV) = some r := hk
   injection hk with hk
   subst hk
   exact ⟨fun _ => rfl, fun v hv => by cases hv⟩
  | cons => simp at hl
 | q :: es, [], i, r, hl, _, _ => by simp at hl
 | q :: es, en :: ents, i, r, hl, hr, hk => by
  have hk' : (match q.1 with | .i l m => bi (ikEq j l) (bi (ieq n m) (some (some q.2)) (keyGet j n es)) none | _ => none) = some r := hk
  obtain ⟨e0, h1, h2, h3⟩ := hr 0 q rfl
  simp at h1; subst h1
  split at hk'
  ·rename_i l m hqm
   obtain ⟨e1, hk2⟩ := bi_none hk'
   clear hk' hk
   have e1 := ikEq_iff.1 e1
   subst e1
   rw [hqm, VRep] at h2
   cases hq : ieq n m with
   | true =>
    rw [hq, bi_true] at hk2
    injection hk2 with hk2
    subst hk2
    refine ⟨fun e => (by cases e), fun v hv => ?_⟩
    injection hv with hv
    subst hv
    refine ⟨i, en.val, ?_, h3⟩
    unfold Instr.findNow
    rw [h2]
    have hne : (n == m) = true := by rw [ieq_eq] at hq; exact hq
    simp only [Instr.sameNow, if_true, hne]
   | false =>
    rw [hq, bi_false] at hk2
    have ih := findNow_get j n es ents (i + 1) r (by simpa using hl) (fun m q' hq' => hr (m + 1) q' (by simpa using hq')) hk2
    have hne : (n == m) = false := by rw [ieq_eq] at hq; exact hq
    have hst : Instr.findNow (.int j) (.int j n) (en :: ents) i = Instr.findNow (.int j) (.int j n) ents (i + 1) := by
     conv => lhs; unfold Instr.findNow
     rw [h2]
     simp only [Instr.sameNow, if_true, hne]
    rw [hst]
    exact ih
  ·cases hk'
theorem does_lookup [Env] (hr : HRel G h w φ) (ho : ∀ x, V w φ G h (ρ x) (e x)) {t : TypeId} {m key : Operand} {ok : Bool} (hop : o.op = .lookup t m key ok) {k : AV → Heap → Prop} {call : Call' Prop}
  (hk : evLookup P t m key ok False call ρ h id k) : ∃ av h', k av h' ∧ Does P G h w φ id o e av h' := by
 obtain ⟨q, hq, hk⟩ := on_prop (k := fun q : IntKind × TypeId => lookupN False h q.1 (zeroOf P q.2) (ρ m) (ρ key) ok fun v => k v h) hk
 obtain ⟨kt, ht, hkt⟩ := mapOfT_some hq
 have hm := ho m
 have hkey := ho key
 unfold lookupN at hk
 split at hk
 ·rename_i b hb
  split at hk
  ·rename_i es hg
   split at hk
   ·rename_i l n hkv
    obtain ⟨h1, hk⟩ := bi_prop hk
    have e1 := ikEq_iff.1 h1
    obtain ⟨r, hr1, hk⟩ := on_prop hk
    unfold V at hm hkey
    rw [hb, VRep] at hm
    obtain ⟨cb, sz, nn, hφ, hme⟩ := hm
    rw [hkv, VRep] at hkey
    have hraw := Heap.get_raw hg (by intro e; cases e)
    have hne : h.raw b ≠ .none := by rw [hraw]; intro e; cases e
    obtain ⟨_, hlt, hbr⟩ := hr.blk b cb sz nn hne hφ
    rw [hraw] at hbr
    obtain ⟨ents, clock, hw, hsz, hent⟩ := hbr
    obtain ⟨f1, f2⟩ := findNow_get (w := w) (φ := φ) (bad := BadOf G h φ) q.1 n es ents.toList 0 r (by simpa using hsz) (fun i q hq => by
     obtain ⟨e, q1, q2⟩ := hent i q hq
     exact ⟨e, by simpa using q1, q2⟩) hr1
    have tup : ∀ (v : AV) (u : Value) (c : Bool), V w φ G h v u → V w φ G h (okTup ok v c) (if ok then .tuple #[u, .bool c] else u) := fun v u c hv => by
     cases ok
     ·exact hv
     ·exact V_tup2 hv (V_b.2 rfl)
    subst e1
    cases r with
    | none =>
     obtain ⟨z, hz, hk⟩ := on_prop hk
     obtain ⟨i, v, hi, hv, rfl⟩ := zero_of hz
     refine ⟨_, _, hk, Does.quiet hr (v := if ok then .tuple #[v, .bool false] else v) ?_ (tup _ _ _ (of_rep v))⟩
     simp [execOp, hop, hme, hkey, Instr.lookup, run_underlying ht, MapKept.run_getObj_map hw, MapKept.run_checkKey hkt (show MapKept.IsKey (.int q.1) (.int q.1 n) from rfl), MapKept.run_findKey hkt (f1 rfl), run_zero hi hv, Result.andThen]
     try rfl
    | some v =>
     obtain ⟨i', u, hf, hv⟩ := f2 v rfl
     refine ⟨_, _, hk, Does.quiet hr (v := if ok then .tuple #[u, .bool true] else u) ?_ (tup _ _ _ hv)⟩
     simp [execOp, hop, hme, hkey, Instr.lookup, run_underlying ht, MapKept.run_getObj_map hw, MapKept.run_checkKey hkt (show MapKept.IsKey (.int q.1) (.int q.1 n) from rfl), MapKept.run_findKey hkt hf, Result.andThen]
     try rfl
   ·exact hk.elim
  ·exact hk.elim
 ·exact hk.elim
theorem frozen_iter (w : World) (s : ByteArray) (c : Nat) (a : Addr) (he : a.block = w.heap.size) : (w.alloc (.stringIter s c)).frozen? a = w.frozen? a := by
 unfold World.frozen?
 have h1 : w.heap[a.block]? = none := Array.getElem?_eq_none (by omega)
 rw [h1, he, heap_alloc_new]
theorem does_range [Env] (hr : HRel G h w φ) (ho : ∀ x, V w φ G h (ρ x) (e x)) (hid : φ id = none) (hle : id ≤ h.next) {t : TypeId} {x : Operand} (hop : o.op = .range t x) {k : AV → Heap → Prop} {call : Call' Prop}
  (hk : evRange P t x False call ρ h id k) : ∃ av h', k av h' ∧ Does P G h w φ id o e av h' := by
 obtain ⟨h1, hk⟩ := bi_prop (c := isStr P t) hk
 have hx := ho x
 split at hk
 ·rename_i len val hxv
  unfold V at hx
  rw [hxv, VRep] at hx
  obtain ⟨q, hq, hl, hc⟩ := hx
  have ht : P.underlying t = some .string := by
   unfold isStr undOf at h1
   split at h1
   ·assumption
   ·cases h1
  refine ⟨_, _, hk, .pointer (some ⟨w.heap.size, 0, none⟩), w.alloc (.stringIter q 0), φ.set id (w.heap.size, 0, 0), .inl ?_, ?_, turn_newO hr hid hle (ext_allocO _ w (frozen_iter w q 0)) fun w' φ' bad' _ _ hw => ⟨q, hw, hl, hc⟩⟩
  ·simp [execOp, hop, hq, Instr.range, run_underlying ht, Result.andThen, newObj, Sem.run]
   try rfl
  ·rw [VRep]
   exact ⟨w.heap.size, 0, 0, by unfold Phi.set; rw [if_pos rfl], rfl⟩
 ·exact hk.elim
theorem does_next [Env] (hr : HRel G h w φ) (ho : ∀ x, V w φ G h (ρ x) (e x)) {x : Operand} {s : Bool} (hop : o.op = .next x s) {k : AV → Heap → Prop} {call : Call' Prop}
  (hk : evNext x s False call ρ h id k) : ∃ av h', k av h' ∧ Does P G h w φ id o e av h' := by
 obtain ⟨hs, hk2⟩ := bi_prop (c := s) (p := nextN False h (ρ x) k) hk
 clear hk
 subst hs
 have hx := ho x
 unfold nextN at hk2
 split at hk2
 ·rename_i b hb
  split at hk2
  ·rename_i len val pos hg
   unfold V at hx
   rw [hb, VRep] at hx
   obtain ⟨cb, sz, nn, hφ, hxe⟩ := hx
   have hraw := Heap.get_raw hg (by intro e; cases e)
   have hne : h.raw b ≠ .none := by rw [hraw]; intro e; cases e
   obtain ⟨_, hlt, hbr⟩ := hr.blk b cb sz nn hne hφ
   rw [hraw] at hbr
   obtain ⟨q, hw, hl, hc⟩ := hbr
   have hget : (getObj cb).run P w = .ok (.stringIter q pos) w := by simp [getObj, Sem.run, hw]
   cases hlp : Nat.blt pos len with
   | false =>
    rw [hlp] at hk2
    have hnp : ¬ pos < q.size := fun hh => by rw [blt_iff.2 (by omega)] at hlp; cases hlp
    refine ⟨_, _, hk2, Does.quiet hr (v := .tuple #[.bool false]) ?_ ?_⟩
    ·simp [execOp, hop, hxe, Instr.next, hget, hnp, Result.andThen]
    ·show VRep _ _ _ (.tup [.b false]) _
     rw [VRep]
     exact ⟨_, rfl, by rw [VReps]; exact ⟨_, _, rfl, V_b.2 rfl, by rw [VReps]⟩⟩
   | true =>
    rw [hlp] at hk2
    obtain ⟨h8, hk2⟩ := bi_prop hk2
    have h8 := blt_iff.1 h8
    have hp : pos < q.size := by have := blt_iff.1 hlp; omega
    have hb0 : (q.get! pos).toNat = sIdx val pos := by
     have h1 : pos < q.data.toList.length := by simpa using hp
     rw [← hc, ← code_at _ pos h1]
     congr 1
     have h2 : pos < q.data.size := hp
     simp [ByteArray.get!]
     exact getElem!_pos q.data pos h2
    have hdec : Utf8.decode q pos = (sIdx val pos, 1) := by
     unfold Utf8.decode
     dsimp only
     simp only [Nat.add_zero, hb0]
     exact if_pos (by omega)
    have hset : (setObj cb (.stringIter q (pos + 1))).run P w = .ok () (World.put w cb (.stringIter q (pos + 1))) := by simp [setObj, Sem.run, hw]
    refine ⟨_, _, hk2, .tuple #[.bool true, goInt pos, .int .i32 (sIdx val pos)], World.put w cb (.stringIter q (pos + 1)), φ, .inl ?_, ?_, turn_setO hr hraw (by intro e; cases e) hφ ?_ ?_⟩
    ·simp [execOp, hop, hxe, Instr.next, hget, hp, hdec, hset, Result.andThen]
    ·rw [VRep]
     refine ⟨_, rfl, ?_⟩
     rw [VReps]; refine ⟨_, _, rfl, V_b.2 rfl, ?_⟩
     rw [VReps]; refine ⟨_, _, rfl, by rw [VRep]; rfl, ?_⟩
     rw [VReps]; refine ⟨_, _, rfl, by rw [VRep]; rfl, ?_⟩
     rw [VReps]
    ·intro a ha
     unfold World.frozen?
     rw [ha, hw, put_at hlt]
    ·intro w' φ' bad' g hp' hw'
     exact ⟨q, hw', hl, hc⟩
  ·exact hk2.elim
 ·exact hk2.elim
end
end Go.Zev

/-
  The table of the operations: what each does.
-/
set_option linter.unusedSimpArgs false
set_option linter.unusedVariables false
namespace Go.Zev
open Go
section
variable {P : Program} {G : Bad} {h : Heap} {w : World} {φ : Phi} {id : Nat} {o : Oper} {e : Operand → Value} {ρ : Operand → AV}
theorem Makes.does [Env] {s : Sem Value} {av : AV} {h' : Heap} (hm : Makes P G h w φ id s av h') (hop : execOp e o = (do pure (.value (← s)))) : Does P G h w φ id o e av h' := by
 obtain ⟨v, w', φ', h1, h2, h3⟩ := hm
 refine ⟨v, w', φ', .inl ?_, h2, h3⟩
 rw [hop, Sem.run_bind, h1, Result.andThen_ok]
 rfl
theorem V.list (ho : ∀ x, V w φ G h (ρ x) (e x)) : ∀ (l : List Operand), VReps w φ (BadOf G h φ) (lmap ρ l) (l.map e)
 | [] => by rw [VReps.eq_def]; rfl
 | x :: l => by
  show VReps _ _ _ (ρ x :: lmap ρ l) _
  rw [VReps]
  exact ⟨e x, l.map e, rfl, ho x, V.list ho l⟩
theorem iface_v {t : TypeId} {x : AV} {u : Value} {k : AV → Prop} (hx : V w φ G h x u) (hk : bi (isConc P t) (k (.ifc t x)) False) : ∃ av, k av ∧ Yields P w φ G h (Instr.makeInterface t u) av := by
 obtain ⟨h1, hk⟩ := bi_prop hk
 obtain ⟨d, hd, hn⟩ := conc_of h1
 refine ⟨_, hk, .iface t u, ?_, by unfold V; rw [VRep]; exact ⟨u, rfl, hx⟩⟩
 unfold Instr.makeInterface
 rw [Sem.run_bind, run_underlying hd w, Result.andThen_ok]
 cases d <;> first | rfl | exact absurd rfl (hn _)
theorem func_v [Env] (ho : ∀ x, V w φ G h (ρ x) (e x)) (f : Fn) (a c : Array Operand) : Yields P w φ G h (Instr.makeFunc f (a.map e) (c.map e)) (.fn f (lmap ρ a.toList) (lmap ρ c.toList)) := by
 refine ⟨_, rfl, ?_⟩
 unfold V; rw [VRep]
 exact ⟨_, _, rfl, by rw [Array.toList_map]; exact V.list ho _, by rw [Array.toList_map]; exact V.list ho _⟩
theorem minmax_v {big : Bool} {x y : AV} {u v : Value} {k : AV → Prop} {ts : Array TypeId} {t : TypeId} (hx : V w φ G h x u) (hy : V w φ G h y v) (hk : minmax False big x y k) :
  ∃ av, k av ∧ Yields P w φ G h (bif big then Builtin.max_ ts t #[u, v] else Builtin.min_ ts t #[u, v]) av := by
 cases x <;> first | exact hk.elim | skip
 cases y <;> first | exact hk.elim | skip
 rename_i j a l b
 obtain ⟨h1, hk2⟩ := bi_prop (c := ikEq j l) hk
 clear hk
 have h1 := ikEq_iff.1 h1
 subst h1
 have hx := V_i.1 hx
 have hy := V_i.1 hy
 subst hx hy
 refine ⟨_, hk2, .int j (bi (ilt a b) (bi big b a) (bi big a b)), ?_, by unfold V; rw [VRep]⟩
 cases big
 ·show Sem.run P ([Value.int j b].foldlM Builtin.min2 (.int j a)) w = _
  simp only [List.foldlM_cons, List.foldlM_nil, Builtin.min2, ilt_eq, bind_pure]
  show Sem.run P (pure _) w = _
  rw [Sem.run_pure]
  congr 2
  by_cases hlt : a < b
  ·simp [hlt]; omega
  ·simp [hlt]; omega
 ·show Sem.run P ([Value.int j b].foldlM Builtin.max2 (.int j a)) w = _
  simp only [List.foldlM_cons, List.foldlM_nil, Builtin.max2, ilt_eq, bind_pure]
  show Sem.run P (pure _) w = _
  rw [Sem.run_pure]
  congr 2
  by_cases hlt : a < b
  ·simp [hlt]
  ·simp [hlt]
theorem elemsA_src {sz : Nat} {y : AV} {j : List (List AV) → Prop} (hk : elemsA False h sz y j) : ∃ src, j src ∧ ∀ j' : List (List AV) → Prop, j' src → elemsA False h sz y j' := by
 cases y <;> first | exact hk.elim | skip
 ·exact ⟨_, hk, fun j' h => h⟩
 ·exact ⟨_, hk, fun j' h => h⟩
 ·rename_i b s st len c f
  obtain ⟨h1, hk⟩ := bi_prop (c := Nat.beq s sz) hk
  cases hg : h.get b with
  | cells s' el =>
   rw [hg] at hk
   obtain ⟨h2, hk⟩ := bi_prop (c := lhas (ltake (ldrop el st) len) len) hk
   refine ⟨_, hk, fun j' hj => ?_⟩
   unfold elemsA
   dsimp only
   rw [h1, bi_true, hg]
   dsimp only
   rw [h2, bi_true]
   exact hj
  | none => rw [hg] at hk; exact hk.elim
  | iter _ _ _ => rw [hg] at hk; exact hk.elim
  | map _ => rw [hg] at hk; exact hk.elim
 ·rename_i s f el
  obtain ⟨h1, hk⟩ := bi_prop (c := Nat.beq s sz) hk
  refine ⟨_, hk, fun j' hj => ?_⟩
  unfold elemsA
  dsimp only
  rw [h1, bi_true]
  exact hj
theorem appendY_cases [Env] {ty uy : TypeId} {x y : AV} {k : AV → Heap → Prop} (hk : appendY P False h id ty uy x y k) : appendA P False h id ty uy x y k ∨ appR P False h ty uy x y k := by
 unfold appendY at hk
 obtain ⟨q, hq, hk⟩ := on_prop hk
 obtain ⟨h1, hk⟩ := bi_prop hk
 obtain ⟨src, hk, hs⟩ := elemsA_src hk
 have h2 := h1
 rw [Bool.and_eq_true] at h2
 have mkA : append2 False h id q.2.1 x src k → appendA P False h id ty uy x y k := fun h => by
  unfold appendA
  rw [hq]
  show bi (isSlT P uy && Nat.ble (bytesOf P q.1) (2 ^ 20)) _ False
  rw [h1, bi_true]
  exact hs _ h
 cases src with
 | nil => exact .inl (mkA hk)
 | cons s ss =>
  obtain ⟨h3, hk⟩ := bi_prop (c := onesAll (s :: ss) && Nat.ble (llen (s :: ss)) most) hk
  cases hh : hereQ h x with
  | false =>
   rw [hh, bi_false] at hk
   refine .inl (mkA ?_)
   show bi (onesAll (s :: ss) && Nat.ble (llen (s :: ss)) most) _ False
   rw [h3, bi_true]
   exact hk
  | true =>
   rw [hh, bi_true] at hk
   refine .inr ?_
   unfold appR
   rw [hq]
   show bi (isSlT P uy) _ False
   rw [h2.1, bi_true]
   exact hs _ hk
theorem appendY_v [Env] (hr : HRel G h w φ) (hid : φ id = none) (hle : id ≤ h.next) {ty uy ot : TypeId} {x y : AV} {u v : Value} (hx : V w φ G h x u) (hy : V w φ G h y v) {k : AV → Heap → Prop} (hk : appendY P False h id ty uy x y k) :
  ∃ av h', k av h' ∧ Makes P G h w φ id (Builtin.append_ #[ty, uy] ot #[u, v]) av h' := by
 rcases appendY_cases hk with hk | hk
 ·exact append_v hr hid hle hx hy hk
 ·exact appR_v hr hx hy hk
def IsCall (o : Oper) (ρ : Operand → AV) (h : Heap) (call : Call' Prop) (k : AV → Heap → Prop) : Prop :=
 ∃ c f, o.op = .call c ∧ c.callee = .value f ∧ callFn False (ρ f) (lmap ρ c.args.toList) call h k
theorem table_v [Env] (hr : HRel G h w φ) (ho : ∀ x, V w φ G h (ρ x) (e x)) (hid : φ id = none) (hle : id ≤ h.next) {k : AV → Heap → Prop} {call : Call' Prop} (hk : table P o.op False call ρ h id k) :
  (∃ av h', k av h' ∧ Does P G h w φ id o e av h') ∨ IsCall o ρ h call k := by
 have quiet : ∀ {s : Sem Value}, (∃ av, k av h ∧ Yields P w φ G h s av) → execOp e o = (do pure (.value (← s))) → (∃ av h', k av h' ∧ Does P G h w φ id o e av h') ∨ IsCall o ρ h call k :=
  fun hq he => by obtain ⟨av, h1, h2⟩ := hq; exact .inl ⟨av, h, h1, h2.does hr he⟩
 have makes : ∀ {s : Sem Value}, (∃ av h', k av h' ∧ Makes P G h w φ id s av h') → execOp e o = (do pure (.value (← s))) → (∃ av h', k av h' ∧ Does P G h w φ id o e av h') ∨ IsCall o ρ h call k :=
  fun hq he => by obtain ⟨av, h', h1, h2⟩ := hq; exact .inl ⟨av, h', h1, h2.does he⟩
 cases hop : o.op with
 | move x => rw [hop] at hk; exact .inl ⟨_, h, hk, does_move hr ho (.inl hop)⟩
 | makeMap t r =>
  rw [hop] at hk
  cases r with
  | none => exact .inl (does_makeMap hr hid hle hop hk)
  | some _ => exact hk.elim
 | insert t m key x => rw [hop] at hk; exact .inl (does_insert (call := call) hr ho hop hk)
 | lookup t m key ok => rw [hop] at hk; exact .inl (does_lookup (call := call) hr ho hop hk)
 | range t x => rw [hop] at hk; exact .inl (does_range (call := call) hr ho hid hle hop hk)
 | next x s => rw [hop] at hk; exact .inl (does_next (call := call) hr ho hop hk)
 | assign x => rw [hop] at hk; exact .inl ⟨_, h, hk, does_move hr ho (.inr hop)⟩
 | pick c a b => rw [hop] at hk; obtain ⟨av, h1, h2⟩ := does_pick (id := id) (call := call) hr ho hop hk; exact .inl ⟨av, h, h1, h2⟩
 | alloc t => rw [hop] at hk; exact .inl (does_alloc (call := call) (ρ := ρ) hr hid hle hop hk)
 | box t x => rw [hop] at hk; exact .inl (does_box (call := call) hr ho hid hle hop hk)
 | build t ps => rw [hop] at hk; exact quiet (build_v (k := fun v => k v h) ho hk) (by simp only [execOp, hop])
 | buildSlice t n ps => rw [hop] at hk; exact makes (buildSlice_v hr ho hid hle hk) (by simp only [execOp, hop])
 | load t x => rw [hop] at hk; exact quiet (load_v (k := fun v => k v h) hr (ho x) hk) (by simp only [execOp, hop])
 | store t x y => rw [hop] at hk; exact .inl (does_store (call := call) hr ho hop hk)
 | nilCheck x => rw [hop] at hk; obtain ⟨av, h1, h2⟩ := does_nilCheck (id := id) (call := call) hr ho hop hk; exact .inl ⟨av, h, h1, h2⟩
 | binOp op t x y t' => rw [hop] at hk; exact quiet (binA_v (a := x) (b := y) (k := fun v => k v h) (ho x) (ho y) hk) (by simp only [execOp, hop])
 | unOp op t x => rw [hop] at hk; exact quiet (unA_v (k := fun v => k v h) (ho x) hk) (by simp only [execOp, hop])
 | convert s d x => rw [hop] at hk; exact quiet (convA_v (k := fun v => k v h) (ho x) hk) (by simp only [execOp, hop])
 | makeInterface t x => rw [hop] at hk; exact quiet (iface_v (k := fun v => k v h) (ho x) hk) (by simp only [execOp, hop])
 | makeFunc f a c => rw [hop] at hk; exact quiet ⟨_, hk, func_v ho f a c⟩ (by simp only [execOp, hop])
 | makeSlice t l c => rw [hop] at hk; exact makes (makeSlice_v hr hid hle (ho l) (ho c) hk) (by simp only [execOp, hop])
 | slice t x lo hi mx => rw [hop] at hk; exact quiet (slice_v (k := fun v => k v h) ho (ho x) hk) (by simp only [execOp, hop])
 | fieldAddr t x j => rw [hop] at hk; exact quiet (fieldAddr_v (k := fun v => k v h) (ho x) hk) (by simp only [execOp, hop])
 | field t x j => rw [hop] at hk; exact quiet (field_v (k := fun v => k v h) (ho x) hk) (by simp only [execOp, hop])
 | indexAddr t x i => rw [hop] at hk; exact quiet (indexAddr_v (k := fun v => k v h) (ho x) (ho i) hk) (by simp only [execOp, hop])
 | index t x i => rw [hop] at hk; exact quiet (index_v (k := fun v => k v h) (ho x) (ho i) hk) (by simp only [execOp, hop])
 | typeAssert x s t ok => rw [hop] at hk; exact quiet (assertA_v (s := s) (k := fun v => k v h) (ho x) hk) (by simp only [execOp, hop])
 | extract x i => rw [hop] at hk; exact quiet (extract_v (k := fun v => k v h) (ho x) hk) (by simp only [execOp, hop])
 | call c =>
  rw [hop] at hk
  have hk1 : evCall P c False call ρ h id k := hk
  unfold evCall at hk1
  cases hc : c.callee with
  | value f => rw [hc] at hk1; exact .inr ⟨c, f, hop, hc, hk1⟩
  | invoke r n => rw [hc] at hk1; exact hk1.elim
  | builtin b =>
   rw [hc] at hk1
   have hex : ∃ cs, execOp e o = invoke (.builtin b c.argTypes o.type cs) (c.args.map e) := by
    simp only [execOp, hop, resolve, hc, pure_bind]
    exact ⟨_, rfl⟩
   obtain ⟨cs, hex⟩ := hex
   cases b <;> first | exact hk1.elim | skip
   ·
    have hk2 : evAppend P c.args.toList c.argTypes.toList False call ρ h id k := hk1
    unfold evAppend at hk2
    split at hk2
    ·rename_i x y hxy
     split at hk2
     ·rename_i t u htu
      have e1 : c.args = #[x, y] := by rw [← Array.toArray_toList (xs := c.args), hxy]
      have e2 : c.argTypes = #[t, u] := by rw [← Array.toArray_toList (xs := c.argTypes), htu]
      refine makes (appendY_v (ot := o.type) hr hid hle (ho x) (ho y) hk2) ?_
      rw [hex, e1, e2]
      simp only [invoke, builtin, List.map_toArray, List.map_cons, List.map_nil]
     ·exact hk2.elim
    ·exact hk2.elim
   ·
    have hk2 : evCap P c.args.toList c.argTypes.toList False call ρ h id k := hk1
    unfold evCap at hk2
    split at hk2
    ·rename_i x hxy
     split at hk2
     ·rename_i t htu
      have e1 : c.args = #[x] := by rw [← Array.toArray_toList (xs := c.args), hxy]
      have e2 : c.argTypes = #[t] := by rw [← Array.toArray_toList (xs := c.argTypes), htu]
      refine quiet (cap_v (ty' := o.type) (k := fun v => k v h) (ho x) hk2) ?_
      rw [hex, e1, e2]
      simp only [invoke, builtin, List.map_toArray, List.map_cons, List.map_nil]
     ·exact hk2.elim
    ·exact hk2.elim
   ·
    have hk2 : evClear P c.args.toList c.argTypes.toList False call ρ h id k := hk1
    unfold evClear at hk2
    split at hk2
    ·rename_i x hxy
     split at hk2
     ·rename_i t htu
      have e1 : c.args = #[x] := by rw [← Array.toArray_toList (xs := c.args), hxy]
      have e2 : c.argTypes = #[t] := by rw [← Array.toArray_toList (xs := c.argTypes), htu]
      refine makes (clear_v (ty' := o.type) hr (ho x) hk2) ?_
      rw [hex, e1, e2]
      simp only [invoke, builtin, List.map_toArray, List.map_cons, List.map_nil]
     ·exact hk2.elim
    ·exact hk2.elim
   ·
    have hk2 : evCopy P c.args.toList c.argTypes.toList False call ρ h id k := hk1
    unfold evCopy at hk2
    split at hk2
    ·rename_i x y hxy
     split at hk2
     ·rename_i t u htu
      have e1 : c.args = #[x, y] := by rw [← Array.toArray_toList (xs := c.args), hxy]
      have e2 : c.argTypes = #[t, u] := by rw [← Array.toArray_toList (xs := c.argTypes), htu]
      refine makes (copy_v (ot := o.type) hr (ho x) (ho y) hk2) ?_
      rw [hex, e1, e2]
      simp only [invoke, builtin, List.map_toArray, List.map_cons, List.map_nil]
     ·exact hk2.elim
    ·exact hk2.elim
   ·
    have hk2 : evLen P c.args.toList c.argTypes.toList False call ρ h id k := hk1
    unfold evLen at hk2
    split at hk2
    ·rename_i x hxy
     split at hk2
     ·rename_i t htu
      have e1 : c.args = #[x] := by rw [← Array.toArray_toList (xs := c.args), hxy]
      have e2 : c.argTypes = #[t] := by rw [← Array.toArray_toList (xs := c.argTypes), htu]
      refine quiet (len_v (ty' := o.type) (k := fun v => k v h) (ho x) hk2) ?_
      rw [hex, e1, e2]
      simp only [invoke, builtin, List.map_toArray, List.map_cons, List.map_nil]
     ·exact hk2.elim
    ·exact hk2.elim
   ·
    have hk2 : evMinMax true c.args.toList False call ρ h id k := hk1
    unfold evMinMax at hk2
    split at hk2
    ·rename_i x y hxy
     have e1 : c.args = #[x, y] := by rw [← Array.toArray_toList (xs := c.args), hxy]
     refine quiet (minmax_v (P := P) (ts := c.argTypes) (t := o.type) (k := fun v => k v h) (ho x) (ho y) hk2) ?_
     rw [hex, e1]
     simp only [invoke, builtin, List.map_toArray, List.map_cons, List.map_nil, cond_true, cond_false]
    ·exact hk2.elim
   ·
    have hk2 : evMinMax false c.args.toList False call ρ h id k := hk1
    unfold evMinMax at hk2
    split at hk2
    ·rename_i x y hxy
     have e1 : c.args = #[x, y] := by rw [← Array.toArray_toList (xs := c.args), hxy]
     refine quiet (minmax_v (P := P) (ts := c.argTypes) (t := o.type) (k := fun v => k v h) (ho x) (ho y) hk2) ?_
     rw [hex, e1]
     simp only [invoke, builtin, List.map_toArray, List.map_cons, List.map_nil, cond_true, cond_false]
    ·exact hk2.elim
 | _ => rw [hop] at hk; exact hk.elim
theorem tableX_eq {α : Type} {op : Op} (h : ¬ ∃ c, op = .call c ∧ c.callee = .builtin .append) : (tableX P op : Fn' α) = table P op := by
 cases op <;> first | rfl | skip
 rename_i c
 show (match c.callee with | .builtin .append => (evAppX P c.args.toList c.argTypes.toList : Fn' α) | _ => table P (.call c)) = table P (.call c)
 split
 ·rename_i hc; exact absurd ⟨c, rfl, hc⟩ h
 ·rfl
theorem tableX_v [Env] (hr : HRel G h w φ) (ho : ∀ x, V w φ G h (ρ x) (e x)) (hid : φ id = none) (hle : id ≤ h.next) {k : AV → Heap → Prop} {call : Call' Prop} (hk : tableX P o.op False call ρ h id k) :
  (∃ av h', k av h' ∧ Does P G h w φ id o e av h') ∨ IsCall o ρ h call k := by
 by_cases hop : ∃ c, o.op = .call c ∧ c.callee = .builtin .append
 ·obtain ⟨c, hop, hc⟩ := hop
  have hk1 : evAppX P c.args.toList c.argTypes.toList False call ρ h id k := by
   unfold tableX at hk
   rw [hop] at hk
   dsimp only at hk
   rw [hc] at hk
   exact hk
  unfold evAppX at hk1
  split at hk1
  ·rename_i x y hxy
   split at hk1
   ·rename_i t u htu
    have hk0 : bi (isIntT P u) (appMk P False h id t (ρ x) (ρ y) k) (bi (hereQ h (ρ x)) (appR P False h t u (ρ x) (ρ y) k) (appendA P False h id t u (ρ x) (ρ y) k)) := hk1
    have e1 : c.args = #[x, y] := by rw [← Array.toArray_toList (xs := c.args), hxy]
    have e2 : c.argTypes = #[t, u] := by rw [← Array.toArray_toList (xs := c.argTypes), htu]
    have hex : ∃ cs, execOp e o = invoke (.builtin .append c.argTypes o.type cs) (c.args.map e) := by
     simp only [execOp, hop, resolve, hc, pure_bind]
     exact ⟨_, rfl⟩
    obtain ⟨cs, hex⟩ := hex
    have fin : (∃ av h', k av h' ∧ Makes P G h w φ id (Builtin.append_ #[t, u] o.type #[e x, e y]) av h') → (∃ av h', k av h' ∧ Does P G h w φ id o e av h') := by
     rintro ⟨av, h', h1, h2⟩
     refine ⟨av, h', h1, h2.does ?_⟩
     rw [hex, e1, e2]
     simp only [invoke, builtin, List.map_toArray, List.map_cons, List.map_nil]
    cases hu : isIntT P u with
    | true => rw [hu] at hk0; exact .inl (fin (appMk_v hr hid hle hu (ho x) (ho y) hk0))
    | false =>
    have hk2 : bi (hereQ h (ρ x)) (appR P False h t u (ρ x) (ρ y) k) (appendA P False h id t u (ρ x) (ρ y) k) := by rw [hu] at hk0; exact hk0
    cases hq : hereQ h (ρ x) with
    | true => rw [hq] at hk2; exact .inl (fin (appR_v hr (ho x) (ho y) hk2))
    | false => rw [hq] at hk2; exact .inl (fin (append_v hr hid hle (ho x) (ho y) hk2))
   ·exact hk1.elim
  ·exact hk1.elim
 ·refine table_v hr ho hid hle (call := call) ?_
  rw [tableX_eq hop] at hk
  exact hk
end
end Go.Zev

/-
  Bodies: regions whose order is the text's, and all code around them.
-/
set_option linter.unusedSimpArgs false
set_option linter.unusedVariables false
namespace Go.Zev
open Go
structure FarI [Env] (I : Bad) (G : Bad) (h : Heap) (w : World) (φ : Phi) (h' : Heap) (w' : World) (φ' : Phi) : Prop where
 rel : HRel G h' w' φ'
 le : PhiLe φ φ'
 ext : Ext (Own h φ) w w'
 own : ∀ k, k < w.heap.size → Own h' φ' k → Own h φ k
 next : h.next ≤ h'.next
 keep : ∀ b, b < h.next → ¬ I b → φ' b = φ b
def noBad : Bad := fun _ => False
abbrev Far [Env] := FarI noBad
section
variable {P : Program} {I J : Bad} {G : Bad} {h h' h1 h2 : Heap} {w w' w1 w2 : World} {φ φ' φ1 φ2 : Phi} {id nt nv : Nat} {t : Tm} {l : Loc} {a : Act} {x : AV}
theorem Far.refl [Env] (hr : HRel G h w φ) : FarI I G h w φ h w φ := ⟨hr, PhiLe.refl _, Ext.refl _ _, fun _ _ h => h, Nat.le_refl _, fun _ _ _ => rfl⟩
theorem FarI.trans [Env] (a : FarI I G h w φ h1 w1 φ1) (b : FarI I G h1 w1 φ1 h2 w2 φ2) : FarI I G h w φ h2 w2 φ2 :=
 ⟨b.rel, a.le.trans b.le, a.ext.trans b.ext a.own, fun k hk ho => a.own k hk (b.own k (Nat.lt_of_lt_of_le hk a.ext.size) ho), Nat.le_trans a.next b.next,
  fun k hk hi => (b.keep k (Nat.lt_of_lt_of_le hk a.next) hi).trans (a.keep k hk hi)⟩
theorem FarI.mono [Env] (a : FarI I G h w φ h1 w1 φ1) (hi : ∀ b, b < h.next → I b → J b) : FarI J G h w φ h1 w1 φ1 := ⟨a.rel, a.le, a.ext, a.own, a.next, fun b hb hj => a.keep b hb fun hi' => hj (hi b hb hi')⟩
theorem Turn.far [Env] (t : Turn G h w φ id h' w' φ') : FarI (· = id) G h w φ h' w' φ' := ⟨t.rel, t.le, t.ext, t.own, t.next, fun b hb hi => t.keep b hi hb⟩
theorem FarI.goes [Env] (t : FarI I G h w φ h' w' φ') : Goes w (BadOf G h φ) w' (BadOf G h' φ') := t.ext.goes (fun k hk => .inr hk) (fun k hk hb => hb.imp (fun x => x) (t.own k hk))
theorem FarI.v [Env] {v : Value} (t : FarI I G h w φ h' w' φ') (hv : V w φ G h x v) : V w' φ' G h' x v := VRep.mono t.goes t.le _ _ hv
def DRep (w : World) (φ : Phi) (bad : Bad) (e : AV) (d : Deferred) : Prop :=
 ∃ (f : FuncId) (a c args : List AV) (xs ys zs : Array Value), e = .tup [.fn (.func f) a c, .tup args] ∧ d = { target := .fn (.func f) ys, args := xs ++ zs } ∧ VReps w φ bad a xs.toList ∧ VReps w φ bad c ys.toList ∧ VReps w φ bad args zs.toList
def DList (w : World) (φ : Phi) (bad : Bad) : List AV → List Deferred → Prop
 | [], ds => ds = []
 | e :: es, ds => ∃ d r, ds = d :: r ∧ DRep w φ bad e d ∧ DList w φ bad es r
def DOf (w : World) (φ : Phi) (bad : Bad) (v : AV) (ds : List Deferred) : Prop := (v = .un ∧ ds = []) ∨ ∃ es, v = .tup es ∧ DList w φ bad es ds
def Chain (p : Value → Prop) (c : List PanicEntry) : Prop := ∃ v older, c = { v := v, recovered := false } :: older ∧ p v ∧ ∀ e ∈ older, e.goexit = false
def MRep (p : AV → Value → Prop) (st : AV) (u : FrameMode) : Prop :=
 (st = .tup [] ∧ (u = .returning ∨ ∃ v older, u = .panicking ({ v := v, recovered := true } :: older) ∧ ∀ e ∈ older, e.goexit = false)) ∨ ∃ x c, st = .tup [x] ∧ u = .panicking c ∧ Chain (p x) c
def Out (w : World) (φ : Phi) (G : Bad) (h : Heap) (av : AV) (e : Ending) : Prop :=
 (∃ v, e = .returned v ∧ V w φ G h av v) ∨ ∃ x c, av = .pn x ∧ e = .panicked c ∧ Chain (V w φ G h x) c
theorem DRep.mono {bad bad' : Bad} {e : AV} {d : Deferred} (g : Goes w bad w' bad') (hp : PhiLe φ φ') (hd : DRep w φ bad e d) : DRep w' φ' bad' e d := by
 obtain ⟨f, a, c, args, xs, ys, zs, h1, h2, h3, h4, h5⟩ := hd
 exact ⟨f, a, c, args, xs, ys, zs, h1, h2, h3.mono g hp, h4.mono g hp, h5.mono g hp⟩
theorem DList.mono [Env] {bad bad' : Bad} (g : Goes w bad w' bad') (hp : PhiLe φ φ') : ∀ {es : List AV} {ds : List Deferred}, DList w φ bad es ds → DList w' φ' bad' es ds
 | [], _, h => h
 | e :: es, ds, ⟨d, r, h1, h2, h3⟩ => ⟨d, r, h1, h2.mono g hp, DList.mono g hp h3⟩
theorem DOf.mono [Env] {bad bad' : Bad} {v : AV} {ds : List Deferred} (g : Goes w bad w' bad') (hp : PhiLe φ φ') (hd : DOf w φ bad v ds) : DOf w' φ' bad' v ds := by
 rcases hd with h | ⟨es, h1, h2⟩
 ·exact .inl h
 ·exact .inr ⟨es, h1, h2.mono g hp⟩
theorem Chain.imp {p q : Value → Prop} {c : List PanicEntry} (h : Chain p c) (hpq : ∀ v, p v → q v) : Chain q c := by
 obtain ⟨v, older, h1, h2, h3⟩ := h
 exact ⟨v, older, h1, hpq v h2, h3⟩
structure St [Env] (G : Bad) (nt nv : Nat) (t : Tm) (l : Loc) (h : Heap) (a : Act) (w : World) (φ : Phi) : Prop where
 rel : HRel G h w φ
 size : nt ≤ a.tmps.size
 slots : ∀ k, V w φ G h (slot nv t l k) (a.tmps.getD k undef)
 defers : if nv = 512 then a.defers = [] else DOf w φ (BadOf G h φ) (Tm.get t 511) a.defers
theorem St.opnd [Env] (s : St G nt nv t l h a w φ) (x : Operand) : V w φ G h (opnd nv t l x) (a.eval x) := by
 cases x with
 | tmp k => exact s.slots k
 | const v => exact of_rep v
 | global g => exact V.un _
 | func f =>
  show V w φ G h (.fn (.func f) [] []) (.func (.func f) #[] #[])
  unfold V; rw [VRep]
  exact ⟨#[], #[], rfl, by rw [VReps], by rw [VReps]⟩
theorem St.far [Env] (s : St G nt nv t l h a w φ) (f : FarI I G h w φ h' w' φ') : St G nt nv t l h' a w' φ' := ⟨f.rel, s.size, fun k => f.v (s.slots k), by have := s.defers; split at this <;> rename_i e; rw [if_pos e]; exact this; rw [if_neg e]; exact this.mono f.goes f.le⟩
theorem St.sub [Env] {G2 : Bad} {h2 : Heap} (s : St G nt nv t l h a w φ) (rel : HRel G2 h2 w φ) (hb : ∀ k, BadOf G2 h2 φ k → BadOf G h φ k) : St G2 nt nv t l h2 a w φ := by
 have g : Goes w (BadOf G h φ) w (BadOf G2 h2 φ) := fun b off u hc hn => ⟨hc, fun e => hn (hb _ e)⟩
 refine ⟨rel, s.size, fun k => VRep.mono g (PhiLe.refl _) _ _ (s.slots k), ?_⟩
 have := s.defers
 split at this <;> rename_i e
 ·rw [if_pos e]; exact this
 ·rw [if_neg e]; exact this.mono g (PhiLe.refl _)
theorem St.loc [Env] (s : St G nt nv t l h a w φ) : St G nt nv t [] h a w φ := by
 refine ⟨s.rel, s.size, fun k => ?_, s.defers⟩
 have := s.slots k
 rw [slot_eq] at this ⊢
 split
 ·rename_i hk; rw [if_pos hk] at this; exact this
 ·exact V.un _
theorem getD_put (tmps : Array Value) (d : Nat) (v : Value) (k : Nat) (hd : d < tmps.size) : (tmps.setIfInBounds d v).getD k undef = if k = d then v else tmps.getD k undef := by
 simp only [Array.getD_eq_getD_getElem?, Array.getElem?_setIfInBounds]
 by_cases e : d = k
 ·subst e; simp [hd]
 ·rw [if_neg e, if_neg (fun x => e x.symm)]
theorem St.put [Env] {v : Value} (s : St G nt nv t l h a w φ) (hnv : nv ≤ 512) {d : Nat} (hd : d < nt) (hx : V w φ G h x v) :
  St G nt nv (bi (Nat.blt d nv) (Tm.set t d x) t) (bi (Nat.blt d nv) l (lput l d x)) h (a.put (some d) v) w φ := by
 have hsz := s.size
 refine ⟨s.rel, by simp only [Act.put, Array.size_setIfInBounds]; exact hsz, fun k => ?_, ?_⟩
 rotate_left
 ·have hdef := s.defers
  split at hdef <;> rename_i e
  ·rw [if_pos e]; exact hdef
  ·rw [if_neg e]
   have : Tm.get (bi (Nat.blt d nv) (Tm.set t d x) t) 511 = Tm.get t 511 := by
    cases hb : Nat.blt d nv with
    | false => rfl
    | true => have := blt_iff.1 hb; rw [bi_true, Tm.get_set _ _ (by omega) (by omega), if_neg (by omega)]
   rw [this]
   exact hdef
 have := s.slots k
 simp only [Act.put]
 rw [getD_put _ _ _ _ (by omega)]
 rw [slot_eq] at this ⊢
 rw [bi_eq, bi_eq]
 by_cases hdn : d < nv
 ·rw [if_pos (blt_iff.2 hdn), if_pos (blt_iff.2 hdn)]
  by_cases hk : k < nv
  ·rw [if_pos hk, Tm.get_set _ _ (by omega) (by omega)]
   rw [if_pos hk] at this
   split
   ·exact hx
   ·exact this
  ·rw [if_neg hk, if_neg (by omega)]
   rw [if_neg hk] at this
   exact this
 ·rw [if_neg (fun e => hdn (blt_iff.1 e)), if_neg (fun e => hdn (blt_iff.1 e))]
  by_cases hk : k < nv
  ·rw [if_pos hk, if_neg (by omega)]
   rw [if_pos hk] at this
   exact this
  ·rw [if_neg hk, lget_lput]
   rw [if_neg hk] at this
   by_cases e : d = k
   ·rw [if_pos e, if_pos e.symm]; exact hx
   ·rw [if_neg e, if_neg (fun x => e x.symm)]; exact this
def dstOK (nt : Nat) (o : Oper) : Bool := match o.dst with | some d => Nat.blt d nt | none => true
theorem St.putK [Env] {v : Value} (s : St G nt nv t l h a w φ) (hnv : nv ≤ 512) {o : Oper} (ho : dstOK nt o = true) (hx : V w φ G h x v) {k : K Prop} (hk : putK nv k o.dst x t l h) :
  ∃ t' l', k t' l' h ∧ St G nt nv t' l' h (a.put o.dst v) w φ := by
 unfold dstOK at ho
 cases hd : o.dst with
 | none => rw [hd] at hk; exact ⟨t, l, hk, by exact s⟩
 | some d =>
  rw [hd] at hk ho
  have := s.put hnv (blt_iff.1 ho) hx
  refine ⟨_, _, ?_, this⟩
  have hk' : bi (Nat.blt d nv) (k (Tm.set t d x) l h) (k t (lput l d x) h) := hk
  cases hb : Nat.blt d nv with
  | true => rw [hb] at hk'; exact hk'
  | false => rw [hb] at hk'; exact hk'
structure Enter (P : Program) (f : FuncId) : Prop where
 ok : ∃ fn c, P.funcs[f]? = some fn ∧ fn.body = some c ∧ (fn.name == "runtime.NumGoroutine") = false
theorem run_callFunc {f : FuncId} (he : Enter P f) (args : Array Value) (w : World) : (callFunc f args).run P w = .ok (.enter f args) w := by
 obtain ⟨fn, c, h1, h2, h3⟩ := he.ok
 have h4 : ¬ fn.name = "runtime.NumGoroutine" := by simpa using h3
 simp [callFunc, Sem.run_bind, program, Sem.run, h1, h2, h4, pure]
def Did (P : Program) (f : FuncId) (vs : Array Value) (w : World) (R : Ending → World → Prop) : Prop :=
 (Enter P f ∧ Calls P f vs w R) ∨ ∃ v, (callFunc f vs).run P w = .ok (.value v) w ∧ R (.returned v) w
theorem Did.mono {f : FuncId} {vs : Array Value} {w : World} {R R' : Ending → World → Prop} (h : Did P f vs w R) (hR : ∀ e w', R e w' → R' e w') : Did P f vs w R' := by
 rcases h with ⟨h1, h2⟩ | ⟨v, h1, h2⟩
 ·exact .inl ⟨h1, h2.mono hR⟩
 ·exact .inr ⟨v, h1, hR _ _ h2⟩
theorem Did.calls [Env] {f : FuncId} {vs : Array Value} {w : World} {R : Ending → World → Prop} (h : Did P f vs w R) (he : Enter P f) : Calls P f vs w R := by
 rcases h with ⟨_, h2⟩ | ⟨v, h1, _⟩
 ·exact h2
 ·rw [run_callFunc he] at h1
  injection h1 with h1
  cases h1
def SoundCall [Env] (P : Program) (call : Call' Prop) : Prop :=
 ∀ (G : Bad) (h : Heap) (w : World) (φ : Phi) (f : FuncId) (args : List AV) (vs : Array Value) (k : AV → Heap → Prop), HRel G h w φ → VReps w φ (BadOf G h φ) args vs.toList → call f args h k →
  Did P f vs w fun e w' => ∃ av h' φ', k av h' ∧ Out w' φ' G h' av e ∧ Far G h w φ h' w' φ'
def SoundN [Env] (P : Program) (call : Call' Prop) : Prop :=
 ∀ (G : Bad) (h : Heap) (w : World) (φ : Phi) (f : FuncId) (args : List AV) (vs : Array Value) (k : AV → Heap → Prop), HRel G h w φ → VReps w φ (BadOf G h φ) args vs.toList → call f args h k →
  Enter P f ∧ Calls P f vs w fun e w' => ∃ v av h' φ', e = .returned v ∧ k av h' ∧ V w' φ' G h' av v ∧ Far G h w φ h' w' φ'
theorem VReps.lapp {xs ys : List AV} {us vs : List Value} {bad : Bad} (h1 : VReps w φ bad xs us) (h2 : VReps w φ bad ys vs) : VReps w φ bad (lapp xs ys) (us ++ vs) := by
 rw [lapp_eq]; exact h1.append h2
theorem call_n [Env] {o : Oper} {e : Operand → Value} {ρ : Operand → AV} {call : Call' Prop} {k : AV → Heap → Prop} (hr : HRel G h w φ) (ho : ∀ x, V w φ G h (ρ x) (e x)) (hi : IsCall o ρ h call k) :
  ∃ j args vs, VReps w φ (BadOf G h φ) args vs.toList ∧ call j args h k ∧ (execOp e o).run P w = (callFunc j vs).run P w := by
 obtain ⟨c, f, hop, hcal, hk⟩ := hi
 unfold callFn at hk
 have hf := ho f
 split at hk
 ·rename_i j first cap hfn
  rw [hfn] at hf
  unfold V at hf; rw [VRep] at hf
  obtain ⟨xs, ys, hfv, h1, h2⟩ := hf
  have hargs := V.list ho c.args.toList
  refine ⟨j, _, xs ++ (c.args.map e ++ ys), ?_, hk, ?_⟩
  ·simp only [Array.toList_append, Array.toList_map]
   exact h1.lapp (hargs.lapp h2)
  ·simp only [execOp, hop, resolve, hcal, hfv, Deferred.ofValue, pure_bind, invoke]
   rw [Array.append_assoc]
 ·exact hk.elim
theorem call_v [Env] {o : Oper} {e : Operand → Value} {ρ : Operand → AV} {call : Call' Prop} {k : AV → Heap → Prop} (hc : SoundCall P call) (hr : HRel G h w φ) (ho : ∀ x, V w φ G h (ρ x) (e x)) (hi : IsCall o ρ h call k) :
  (∃ f vs, (execOp e o).run P w = .ok (.enter f vs) w ∧ Calls P f vs w fun e w' => ∃ av h' φ', k av h' ∧ Out w' φ' G h' av e ∧ Far G h w φ h' w' φ') ∨
  ∃ v av h' φ', (execOp e o).run P w = .ok (.value v) w ∧ k av h' ∧ V w φ' G h' av v ∧ Far G h w φ h' w φ' := by
 obtain ⟨j, args, vs, h1, h2, h3⟩ := call_n (P := P) hr ho hi
 rcases hc G h w φ j args vs k hr h1 h2 with ⟨h4, h5⟩ | ⟨v, h4, av, h', φ', hk, hout, hf⟩
 ·exact .inl ⟨j, vs, h3.trans (run_callFunc h4 ..), h5⟩
 ·rcases hout with ⟨v', he, hv⟩ | ⟨x, c, _, he, _⟩
  ·injection he with he
   subst he
   exact .inr ⟨v, av, h', φ', h3.trans h4, hk, hv, hf⟩
  ·cases he
theorem callN_v [Env] {o : Oper} {e : Operand → Value} {ρ : Operand → AV} {call : Call' Prop} {k : AV → Heap → Prop} (hc : SoundN P call) (hr : HRel G h w φ) (ho : ∀ x, V w φ G h (ρ x) (e x)) (hi : IsCall o ρ h call k) :
  ∃ f vs, (execOp e o).run P w = .ok (.enter f vs) w ∧ Calls P f vs w fun e w' => ∃ v av h' φ', e = .returned v ∧ k av h' ∧ V w' φ' G h' av v ∧ Far G h w φ h' w' φ' := by
 obtain ⟨j, args, vs, h1, h2, h3⟩ := call_n (P := P) hr ho hi
 obtain ⟨h4, h5⟩ := hc G h w φ j args vs k hr h1 h2
 exact ⟨j, vs, h3.trans (run_callFunc h4 ..), h5⟩
theorem guard_v [Env] {ops : Array Oper} {o : Oper} (s : St G nt nv t l h a w φ) {yes skip : Prop} (hk : wantedK False ops nv t l o yes skip) :
  (Region.wanted o (yielded ops a.tmps) = true ∧ yes) ∨ (Region.wanted o (yielded ops a.tmps) = false ∧ skip) := by
 unfold Region.wanted
 unfold wantedK at hk
 cases hg : o.guard with
 | none => rw [hg] at hk; exact .inl ⟨rfl, hk⟩
 | some g =>
  obtain ⟨j, want⟩ := g
  rw [hg] at hk
  have hk1 : guardK False ops nv t l (j, want) yes skip := hk
  unfold guardK guardSlot at hk1
  show (yielded ops a.tmps j == some want) = true ∧ yes ∨ (yielded ops a.tmps j == some want) = false ∧ skip
  unfold yielded
  cases ho : ops[j]? with
  | none =>
   dsimp only at hk1
   rw [ho] at hk1
   exact .inr ⟨rfl, hk1⟩
  | some q =>
   dsimp only at hk1
   rw [ho] at hk1
   dsimp only at hk1
   rw [Option.bind_some]
   cases hd : q.dst with
   | none => rw [hd] at hk1; exact .inr ⟨rfl, hk1⟩
   | some d =>
    rw [hd] at hk1
    have hk2 : boolK False want (slot nv t l d) yes skip := hk1
    have hs := s.slots d
    rw [Option.bind_some]
    unfold boolK at hk2
    split at hk2
    ·rename_i x hx
     rw [hx] at hs
     unfold V at hs; rw [VRep] at hs
     have hget : a.tmps[d]? = some (.bool x) := by
      rw [Array.getD_eq_getD_getElem?] at hs
      cases hq : a.tmps[d]? with
      | none => rw [hq] at hs; cases hs
      | some z => rw [hq] at hs; rw [Option.getD_some] at hs; rw [hs]
     rw [hget]
     cases want <;> cases x <;> first | exact .inl ⟨rfl, hk2⟩ | exact .inr ⟨rfl, hk2⟩
    ·rename_i hx
     rw [hx] at hs
     unfold V at hs; rw [VRep] at hs
     obtain ⟨vs, hv, hvs⟩ := hs
     rw [VReps] at hvs
     have hvs' : vs = #[] := Array.toList_eq_nil_iff.1 hvs
     subst hvs'
     rw [Array.getD_eq_getD_getElem?] at hv
     cases hq : a.tmps[d]? with
     | none => exact .inr ⟨rfl, hk2⟩
     | some z => rw [hq, Option.getD_some] at hv; subst hv; exact .inr ⟨rfl, hk2⟩
    ·exact hk2.elim
theorem opStep_v [Env] {call : Call' Prop} (hc : SoundN P call) (hnv : nv ≤ 512) {ops : Array Oper} {o : Oper} (hdst : dstOK nt o = true) {k : K Prop} (s : St G nt nv t l h a w φ) (hid : φ id = none) (hle : id ≤ h.next)
  (hk : opStep P False call nv ops o k t l h id) {K : Act → World → Prop} {Q : Exit → Act → World → Prop}
  (hK : ∀ t' l' h' a' w' φ', St G nt nv t' l' h' a' w' φ' → FarI (· = id) G h w φ h' w' φ' → k t' l' h' → K a' w') :
  if Region.wanted o (yielded ops a.tmps) then o.wp P a w K Q else K (a.put o.dst undef) w := by
 rcases guard_v s hk with ⟨hw, hk⟩ | ⟨hw, hk⟩
 ·rw [if_pos hw]
  rcases table_v s.rel s.opnd hid hle hk with ⟨av, h', hk, v, w', φ', hrun, hv, ht⟩ | hcall
  ·have hfin : K (a.put o.dst v) w' := by
    obtain ⟨t', l', hk', s'⟩ := (s.far ht.far).putK hnv hdst hv hk
    exact hK _ _ _ _ _ _ s' ht.far hk'
   unfold Oper.wp
   rcases hrun with hrun | ⟨hrun, rfl⟩
   ·rw [hrun]; exact hfin
   ·rw [hrun]; exact hfin
  ·obtain ⟨f, vs, hrun, hcs⟩ := callN_v hc s.rel s.opnd hcall
   unfold Oper.wp
   rw [hrun, Oper.upon_enter]
   intro cs
   obtain ⟨e, w', fr, ⟨v, av, h', φ', rfl, hk, hv, hf⟩, h2⟩ := hcs cs
   refine ⟨_, w', fr, ?_, h2⟩
   obtain ⟨t', l', hk', s'⟩ := (s.far hf).putK hnv hdst hv hk
   exact hK _ _ _ _ _ _ s' (hf.mono fun _ _ e => e.elim) hk'
 ·rw [if_neg (by rw [hw]; simp)]
  obtain ⟨t', l', hk', s'⟩ := s.putK hnv hdst (v := undef) (by unfold V; rw [VRep]; exact ⟨#[], rfl, by rw [VReps]⟩) hk
  exact hK _ _ _ _ _ _ s' (Far.refl s.rel) hk'
theorem opStepO_v [Env] {call : Call' Prop} (hc : SoundCall P call) (hnv : nv ≤ 512) {ops : Array Oper} {o : Oper} (hdst : dstOK nt o = true) {k : K Prop} (s : St G nt nv t l h a w φ) (hid : φ id = none) (hle : id ≤ h.next)
  (hk : opStep P False call nv ops o k t l h id) {K : Act → World → Prop} {Q : Exit → Act → World → Prop}
  (hK : ∀ t' l' h' a' w' φ', St G nt nv t' l' h' a' w' φ' → FarI (· = id) G h w φ h' w' φ' → k t' l' h' → K a' w')
  (hP : ∀ x c h' w' φ', St G nt nv t l h' a w' φ' → FarI (· = id) G h w φ h' w' φ' → putK nv k o.dst (.pn x) t l h' → Chain (V w' φ' G h' x) c → Q (.panic c) a w') :
  if Region.wanted o (yielded ops a.tmps) then o.wp P a w K Q else K (a.put o.dst undef) w := by
 rcases guard_v s hk with ⟨hw, hk⟩ | ⟨hw, hk⟩
 ·rw [if_pos hw]
  rcases table_v s.rel s.opnd hid hle hk with ⟨av, h', hk, v, w', φ', hrun, hv, ht⟩ | hcall
  ·have hfin : K (a.put o.dst v) w' := by
    obtain ⟨t', l', hk', s'⟩ := (s.far ht.far).putK hnv hdst hv hk
    exact hK _ _ _ _ _ _ s' ht.far hk'
   unfold Oper.wp
   rcases hrun with hrun | ⟨hrun, rfl⟩
   ·rw [hrun]; exact hfin
   ·rw [hrun]; exact hfin
  ·rcases call_v hc s.rel s.opnd hcall with ⟨f, vs, hrun, hcs⟩ | ⟨v, av, h', φ', hrun, hk, hv, hf⟩
   rotate_left
   ·unfold Oper.wp
    rw [hrun]
    obtain ⟨t', l', hk', s'⟩ := (s.far hf).putK hnv hdst hv hk
    exact hK _ _ _ _ _ _ s' (hf.mono fun _ _ e => e.elim) hk'
   unfold Oper.wp
   rw [hrun, Oper.upon_enter]
   intro cs
   obtain ⟨e, w', fr, ⟨av, h', φ', hk, hout, hf⟩, h2⟩ := hcs cs
   refine ⟨e, w', fr, ?_, h2⟩
   rcases hout with ⟨v, rfl, hv⟩ | ⟨x, c, rfl, rfl, hch⟩
   ·obtain ⟨t', l', hk', s'⟩ := (s.far hf).putK hnv hdst hv hk
    exact hK _ _ _ _ _ _ s' (hf.mono fun _ _ e => e.elim) hk'
   ·exact hP x c _ _ _ (s.far hf) (hf.mono fun _ _ e => e.elim) hk hch
 ·rw [if_neg (by rw [hw]; simp)]
  obtain ⟨t', l', hk', s'⟩ := s.putK hnv hdst (v := undef) (by unfold V; rw [VRep]; exact ⟨#[], rfl, by rw [VReps]⟩) hk
  exact hK _ _ _ _ _ _ s' (Far.refl s.rel) hk'
theorem kindP_call {o : Oper} {ρ : Operand → AV} {call : Call' Prop} {k : AV → Heap → Prop} (hi : IsCall o ρ h call k) : kindP o.op = 1 := by
 obtain ⟨c, f, hop, hcal, _⟩ := hi
 rw [hop]
 show (match c.callee with | .value _ => 1 | .builtin .recover => 4 | _ => 0) = 1
 rw [hcal]
theorem opStep0_v [Env] {call : Call' Prop} (hnv : nv ≤ 512) {ops : Array Oper} {o : Oper} (h0 : kindP o.op ≠ 1) (hdst : dstOK nt o = true) {k : K Prop} (s : St G nt nv t l h a w φ) (hid : φ id = none) (hle : id ≤ h.next)
  (hk : opStep P False call nv ops o k t l h id) {K : Act → World → Prop} {Q : Exit → Act → World → Prop}
  (hK : ∀ t' l' h' a' w' φ', St G nt nv t' l' h' a' w' φ' → FarI (· = id) G h w φ h' w' φ' → k t' l' h' → K a' w') :
  if Region.wanted o (yielded ops a.tmps) then o.wp P a w K Q else K (a.put o.dst undef) w := by
 rcases guard_v s hk with ⟨hw, hk⟩ | ⟨hw, hk⟩
 ·rw [if_pos hw]
  rcases table_v s.rel s.opnd hid hle hk with ⟨av, h', hk, v, w', φ', hrun, hv, ht⟩ | hcall
  ·have hfin : K (a.put o.dst v) w' := by
    obtain ⟨t', l', hk', s'⟩ := (s.far ht.far).putK hnv hdst hv hk
    exact hK _ _ _ _ _ _ s' ht.far hk'
   unfold Oper.wp
   rcases hrun with hrun | ⟨hrun, rfl⟩
   ·rw [hrun]; exact hfin
   ·rw [hrun]; exact hfin
  ·have := kindP_call hcall
   omega
 ·rw [if_neg (by rw [hw]; simp)]
  obtain ⟨t', l', hk', s'⟩ := s.putK hnv hdst (v := undef) (by unfold V; rw [VRep]; exact ⟨#[], rfl, by rw [VReps]⟩) hk
  exact hK _ _ _ _ _ _ s' (Far.refl s.rel) hk'
theorem pnK_v {av : AV} {v : Value} {p : AV → Prop} {k : Prop} (hv : V w φ G h av v) (hk : pnK av p k) : k := by
 cases av <;> first | exact hk | (unfold V at hv; rw [VRep] at hv; exact hv.elim)
theorem St.push [Env] {e : AV} {d : Deferred} (s : St G nt nv t l h a w φ) (hnv : nv < 512) (hd : DRep w φ (BadOf G h φ) e d) {p : AV → Prop} (hp : push False e (Tm.get t 511) p) :
  ∃ v', p v' ∧ St G nt nv (Tm.set t 511 v') l h { a with defers := d :: a.defers } w φ := by
 have slots : ∀ v' k, V w φ G h (slot nv (Tm.set t 511 v') l k) (a.tmps.getD k undef) := by
  intro v' k
  have := s.slots k
  rw [slot_eq] at this ⊢
  split
  ·rename_i hk
   rw [if_pos hk] at this
   rw [Tm.get_set _ _ (by omega) (by omega), if_neg (by omega)]
   exact this
  ·rename_i hk
   rw [if_neg hk] at this
   exact this
 have hdef := s.defers
 rw [if_neg (by omega)] at hdef
 unfold Go.Zev.push at hp
 rcases hdef with ⟨h1, h2⟩ | ⟨es, h1, h2⟩
 ·rw [h1] at hp
  refine ⟨_, hp, ⟨s.rel, s.size, slots _, ?_⟩⟩
  rw [if_neg (by omega), Tm.get_set _ _ (by omega) (by omega), if_pos rfl]
  exact .inr ⟨[e], rfl, d, [], by rw [h2], hd, rfl⟩
 ·rw [h1] at hp
  refine ⟨_, hp, ⟨s.rel, s.size, slots _, ?_⟩⟩
  rw [if_neg (by omega), Tm.get_set _ _ (by omega) (by omega), if_pos rfl]
  exact .inr ⟨e :: es, rfl, d, a.defers, rfl, hd, h2⟩
theorem run_panic {o : Oper} {e : Operand → Value} {x : Operand} {ty : TypeId} {u : Value} (hop : o.op = .panic x) (hx : e x = .iface ty u) : (execOp e o).run P w = .halt (.panic (.iface ty u)) w := by
 simp only [execOp, hop, hx, Instr.panic]
 rfl
theorem run_defer {o : Oper} {e : Operand → Value} {c : Call} {f : Operand} {j : FuncId} {xs ys : Array Value} (hop : o.op = .defer c) (hc : c.callee = .value f) (hf : e f = .func (.func j) xs ys) :
  (execOp e o).run P w = .ok (.defer { target := .fn (.func j) ys, args := xs ++ c.args.map e }) w := by
 simp only [execOp, hop, resolve, hc, hf, Deferred.ofValue, pure_bind]
 rfl
theorem opStepK_v [Env] {call : Call' Prop} (hc : SoundCall P call) (hnv : nv ≤ 512) {ops : Array Oper} {o : Oper} (hdst : dstOK nt o = true) {kp : AV → K Prop} {k : K Prop} (s : St G nt nv t l h a w φ) (hid : φ id = none) (hle : id ≤ h.next)
  (hk : opStepK P False call nv ops o kp k t l h id) {K : Act → World → Prop} {Q : Exit → Act → World → Prop}
  (hK : ∀ t' l' h' a' w' φ', St G nt nv t' l' h' a' w' φ' → FarI (· = id) G h w φ h' w' φ' → k t' l' h' → K a' w')
  (hP : ∀ x c t' l' h' a' w' φ', St G nt nv t' l' h' a' w' φ' → FarI (· = id) G h w φ h' w' φ' → kp x t' l' h' → Chain (V w' φ' G h' x) c → Q (.panic c) a' w') :
  if Region.wanted o (yielded ops a.tmps) then o.wp P a w K Q else K (a.put o.dst undef) w := by
 have skip : ∀ {yes : Prop}, (Region.wanted o (yielded ops a.tmps) = true → yes → o.wp P a w K Q) → wantedK False ops nv t l o yes (putK nv k o.dst (.tup []) t l h) → if Region.wanted o (yielded ops a.tmps) then o.wp P a w K Q else K (a.put o.dst undef) w := by
  intro yes hyes hk
  rcases guard_v s hk with ⟨hw, hk⟩ | ⟨hw, hk⟩
  ·rw [if_pos hw]
   exact hyes hw hk
  ·rw [if_neg (by rw [hw]; simp)]
   obtain ⟨t', l', hk', s'⟩ := s.putK hnv hdst (v := undef) (by unfold V; rw [VRep]; exact ⟨#[], rfl, by rw [VReps]⟩) hk
   exact hK _ _ _ _ _ _ s' (Far.refl s.rel) hk'
 unfold opStepK at hk
 refine skip (fun hw hk => ?_) hk
 unfold coreK at hk
 split at hk
 ·rename_i h0
  rcases tableX_v s.rel s.opnd hid hle hk with ⟨av, h', hk, v, w', φ', hrun, hv, ht⟩ | hcall
  ·have hfin : K (a.put o.dst v) w' := by
    obtain ⟨t', l', hk', s'⟩ := (s.far ht.far).putK hnv hdst hv hk
    exact hK _ _ _ _ _ _ s' ht.far hk'
   unfold Oper.wp
   rcases hrun with hrun | ⟨hrun, rfl⟩
   ·rw [hrun]; exact hfin
   ·rw [hrun]; exact hfin
  ·have := kindP_call hcall
   omega
 ·unfold callDied at hk
  rcases table_v s.rel s.opnd hid hle hk with ⟨av, h', hk, v, w', φ', hrun, hv, ht⟩ | hcall
  ·have hk := pnK_v hv hk
   have hfin : K (a.put o.dst v) w' := by
    obtain ⟨t', l', hk', s'⟩ := (s.far ht.far).putK hnv hdst hv hk
    exact hK _ _ _ _ _ _ s' ht.far hk'
   unfold Oper.wp
   rcases hrun with hrun | ⟨hrun, rfl⟩
   ·rw [hrun]; exact hfin
   ·rw [hrun]; exact hfin
  ·rcases call_v hc s.rel s.opnd hcall with ⟨f, vs, hrun, hcs⟩ | ⟨v, av, h', φ', hrun, hk, hv, hf⟩
   rotate_left
   ·unfold Oper.wp
    rw [hrun]
    obtain ⟨t', l', hk', s'⟩ := (s.far hf).putK hnv hdst hv (pnK_v hv hk)
    exact hK _ _ _ _ _ _ s' (hf.mono fun _ _ e => e.elim) hk'
   unfold Oper.wp
   rw [hrun, Oper.upon_enter]
   intro cs
   obtain ⟨e, w', fr, ⟨av, h', φ', hk, hout, hf⟩, h2⟩ := hcs cs
   refine ⟨e, w', fr, ?_, h2⟩
   rcases hout with ⟨v, rfl, hv⟩ | ⟨x, c, rfl, rfl, hch⟩
   ·obtain ⟨t', l', hk', s'⟩ := (s.far hf).putK hnv hdst hv (pnK_v hv hk)
    exact hK _ _ _ _ _ _ s' (hf.mono fun _ _ e => e.elim) hk'
   ·exact hP x c _ _ _ _ _ _ (s.far hf) (hf.mono fun _ _ e => e.elim) hk hch
 ·rename_i h2
  have hx := s.opnd (opX o.op)
  unfold panicA at hk
  split at hk
  ·rename_i ty v hav
   rw [hav] at hx
   have hx0 := hx
   unfold V at hx; rw [VRep] at hx
   obtain ⟨u, hu, _⟩ := hx
   have hop : ∃ x, o.op = .panic x := by
    cases ho : o.op <;> rw [ho] at h2 <;> first | exact ⟨_, rfl⟩ | (exact absurd h2 (by show ¬ (0 = 2); decide)) | (exact absurd h2 (by show ¬ (3 = 2); decide)) | skip
    rename_i c
    have h2' : (match c.callee with | .value _ => 1 | .builtin .recover => 4 | _ => 0) = 2 := h2
    split at h2' <;> cases h2'
   obtain ⟨x, hop⟩ := hop
   have hux : a.eval x = .iface ty u := by
    have : opX o.op = x := by rw [hop]; rfl
    rw [this] at hu; exact hu
   unfold Oper.wp
   rw [run_panic hop hux, Oper.upon_panic]
   refine hP (.ifc ty v) _ t l h a w φ s (Far.refl s.rel) hk ⟨_, [], rfl, ?_, fun e he => by cases he⟩
   rw [← hu]
   exact hx0
  ·exact hk.elim
 ·rename_i h3
  unfold deferA at hk
  obtain ⟨h512, hk⟩ := bi_prop' hk
  have hnv' : nv < 512 := by
   rcases Nat.lt_or_ge nv 512 with e | e
   ·exact e
   ·rw [beq_iff.2 (Nat.le_antisymm hnv e)] at h512; cases h512
  split at hk
  ·rename_i c hop
   split at hk
   ·rename_i f hcal
    have hf := s.opnd f
    unfold deferF at hk
    split at hk
    ·rename_i j fa fc hfn
     rw [hfn] at hf
     unfold V at hf; rw [VRep] at hf
     obtain ⟨xs, ys, hfv, h1, h2⟩ := hf
     have hargs := V.list s.opnd c.args.toList
     obtain ⟨v', hk', s'⟩ := s.push (d := { target := .fn (.func j) ys, args := xs ++ c.args.map a.eval }) hnv' ⟨j, fa, fc, _, xs, ys, c.args.map a.eval, rfl, rfl, h1, h2, by simpa using hargs⟩ hk
     obtain ⟨t', l', hk2, s2⟩ := s'.putK hnv hdst (v := undef) (V.un _) hk'
     unfold Oper.wp
     rw [run_defer hop hcal hfv, Oper.upon_defer]
     exact hK _ _ _ _ _ _ s2 (Far.refl s.rel) hk2
    ·exact hk.elim
   ·exact hk.elim
  ·exact hk.elim
 ·exact hk.elim
noncomputable def dstsOK (nt : Nat) (l : List Oper) : Bool := lall (dstOK nt) l
theorem runOpsK_v [Env] {call : Call' Prop} (hc : SoundCall P call) (hnv : nv ≤ 512) {ops : Array Oper} {kp : AV → K Prop} {k : K Prop} {Q : Exit → Act → World → Prop} :
  ∀ (os : List Oper) (i : Nat), ops.toList.drop i = os → (∀ o ∈ os, dstOK nt o = true) → ∀ (t : Tm) (l : Loc) (h : Heap) (a : Act) (w : World) (φ : Phi), St G nt nv t l h a w φ → runOpsK P False call nv ops kp k os t l h →
   (∀ t' l' h' a' w' φ', St G nt nv t' l' h' a' w' φ' → Far G h w φ h' w' φ' → k t' l' h' → Q .normal a' w') →
   (∀ x c t' l' h' a' w' φ', St G nt nv t' l' h' a' w' φ' → Far G h w φ h' w' φ' → kp x t' l' h' → Chain (V w' φ' G h' x) c → Q (.panic c) a' w') → wpOps P ops Q (List.range' i os.length) a w
 | [], i, _, _, t, l, h, a, w, φ, s, hk, hQ, _ => by
  show Q .normal a w
  exact hQ _ _ _ _ _ _ s (Far.refl s.rel) hk
 | o :: os, i, hos, hd, t, l, h, a, w, φ, s, hk, hQ, hP => by
  have hk' : opStepK P False call nv ops o kp (runOpsK P False call nv ops kp k os) t l h h.next := hk
  have hget : ops[i]? = some o := by
   have : (ops.toList.drop i)[0]? = some o := by rw [hos]; rfl
   rw [List.getElem?_drop, Nat.add_zero] at this
   simpa using this
  have hrest : ops.toList.drop (i + 1) = os := by
   have : (ops.toList.drop i).drop 1 = os := by rw [hos]; rfl
   rwa [List.drop_drop] at this
  have hid : φ h.next = none := by
   cases hq : φ h.next with
   | none => rfl
   | some y => exact absurd (s.rel.lt _ (by rw [hq]; simp)) (by omega)
  have near : ∀ {h' w' φ'}, FarI (· = h.next) G h w φ h' w' φ' → Far G h w φ h' w' φ' := fun f => f.mono fun b hb e => absurd e (Nat.ne_of_lt hb)
  have := opStepK_v (Q := Q) (K := wpOps P ops Q (List.range' (i + 1) os.length)) hc hnv (hd o (List.mem_cons_self ..)) s hid (Nat.le_refl _) hk' (fun t' l' h' a' w' φ' s' hf' hk2 =>
   runOpsK_v hc hnv os (i + 1) hrest (fun o' ho' => hd o' (List.mem_cons_of_mem _ ho')) t' l' h' a' w' φ' s' hk2 (fun t2 l2 h2 a2 w2 φ2 s2 hf2 hk3 => hQ _ _ _ _ _ _ s2 ((near hf').trans hf2) hk3)
    (fun x c t2 l2 h2 a2 w2 φ2 s2 hf2 hk3 hch => hP x c _ _ _ _ _ _ s2 ((near hf').trans hf2) hk3 hch)) (fun x c t' l' h' a' w' φ' s' hf' hk2 hch => hP x c _ _ _ _ _ _ s' (near hf') hk2 hch)
  rw [List.length_cons, List.range'_succ]
  show (match ops[i]? with | none => _ | some o => if Region.wanted o (yielded ops a.tmps) then o.wp P a w (wpOps P ops Q (List.range' (i + 1) os.length)) Q ∨ (o.asks P a w ∧ LetsOut Q) else wpOps P ops Q (List.range' (i + 1) os.length) (a.put o.dst undef) w)
  rw [hget]
  dsimp only
  by_cases hw : Region.wanted o (yielded ops a.tmps) = true
  ·rw [if_pos hw] at this ⊢; exact .inl this
  ·rw [if_neg hw] at this ⊢; exact this
theorem region_v [Env] {call : Call' Prop} (hc : SoundCall P call) (hnv : nv ≤ 512) {ops : Array Oper} {i : Nat} (hd : dstsOK nt ops.toList = true) {k : Ex → K Prop} {Q : Exit → Act → World → Prop} (s : St G nt nv t l h a w φ) (hk : regionC P False call nv ops k t l h)
  (hQ : ∀ t' l' h' a' w' φ', St G nt nv t' l' h' a' w' φ' → Far G h w φ h' w' φ' → k .nx t' l' h' → Q .normal a' w')
  (hP : ∀ x c t' l' h' a' w' φ', St G nt nv t' l' h' a' w' φ' → Far G h w φ h' w' φ' → k (.pn x) t' l' h' → Chain (V w' φ' G h' x) c → Q (.panic c) a' w') : (Code.region i ops false).wp P Q a w := by
 refine wp_region ?_
 unfold dstsOK at hd
 rw [lall_eq, List.all_eq_true] at hd
 have := runOpsK_v (Q := Q) hc hnv ops.toList 0 (by rw [List.drop_zero]) hd t [] h a w φ s.loc hk hQ hP
 rwa [Array.length_toList, ← List.range_eq_range'] at this
end
end Go.Zev

/-
  Bodies: code. Calls: a body in the caller's heap, a body in a heap of its own.
-/
set_option linter.unusedSimpArgs false
set_option linter.unusedVariables false
namespace Go.Zev
open Go
section
variable {P : Program} {G : Bad} {h h' h1 h2 : Heap} {w w' w1 w2 : World} {φ φ' φ1 φ2 : Phi} {id nt nv : Nat} {t : Tm} {l : Loc} {a : Act} {x : AV}
def ExRep (w : World) (φ : Phi) (G : Bad) (h : Heap) (e : Ex) (x : Exit) : Prop :=
 match e with
 | .nx => x = .normal
 | .ex i => x = .exit i
 | .rt => x = .ret
 | .pn v => ∃ c, x = .panic c ∧ Chain (V w φ G h v) c
def Post [Env] (Q : Exit → Act → World → Prop) (G : Bad) (nt nv : Nat) (h : Heap) (w : World) (φ : Phi) (k : Ex → K Prop) : Prop :=
 ∀ e x t' l' h' a' w' φ', St G nt nv t' l' h' a' w' φ' → Far G h w φ h' w' φ' → k e t' l' h' → ExRep w' φ' G h' e x → Q x a' w'
def Drawn [Env] (P : Program) (call : Call' Prop) : Prop :=
 ∀ (G : Bad) (nt nv id : Nat) (ops : Array Oper) (k : Ex → K Prop) (t : Tm) (l : Loc) (h : Heap) (a : Act) (w : World) (φ : Phi) (Q : Exit → Act → World → Prop), nv ≤ 512 → dstsOK nt ops.toList = true →
  St G nt nv t l h a w φ → regionD P False call nv ops k t l h →
  (∀ t' l' h' a' w' φ', St G nt nv t' l' h' a' w' φ' → Far G h w φ h' w' φ' → k .nx t' l' h' → Q .normal a' w') →
  (∀ x c t' l' h' a' w' φ', St G nt nv t' l' h' a' w' φ' → Far G h w φ h' w' φ' → k (.pn x) t' l' h' → Chain (V w' φ' G h' x) c → Q (.panic c) a' w') → (Code.region id ops true).wp P Q a w
noncomputable def codeOK (nt : Nat) (c : Code) : Bool :=
 Code.rec (motive := fun _ => Bool) true (fun _ ops _ => dstsOK nt ops.toList) (fun _ _ a b => a && b) (fun _ _ _ a b => a && b) (fun _ _ a => a) (fun _ a => a) (fun _ _ _ _ _ _ => true) (fun _ => true)
  (fun _ a => a) (fun _ => true) (fun _ => true) true (fun _ => true) c
theorem wp_loop_step {c : Code} {Q : Exit → Act → World → Prop} {L : Act → World → Prop} (hL : ∀ a w, L a w → ∀ (b : Frame) (k : List Item) (cs : List Frame), ∃ e a' w', Q e a' w' ∧ Arrives P (lone (b.at a (.code c :: .inLoop c :: k)) cs w) b k cs e a' w')
  (hc : c.wp P (Exit.then L Q) a w) (b : Frame) (k : List Item) (cs : List Frame) : ∃ e a' w', Q e a' w' ∧ Arrives P (lone (b.at a (.code c :: .inLoop c :: k)) cs w) b k cs e a' w' := by
 obtain ⟨e, a₁, w₁, hq, harr⟩ := hc b (.inLoop c :: k) cs
 cases e with
 | normal =>
  obtain ⟨e₂, a₂, w₂, hq₂, harr₂⟩ := hL _ _ hq b k cs
  exact ⟨e₂, a₂, w₂, hq₂, .of_steps (Steps.trans harr (.one step_inLoop)) harr₂⟩
 | exit id => exact ⟨_, a₁, w₁, hq, .pass (x := .inLoop c) rfl (fun _ _ => .inl (by simp)) harr⟩
 | goto l => exact ⟨_, a₁, w₁, hq, .pass (x := .inLoop c) rfl (fun _ _ => .inl (by simp)) harr⟩
 | ret => exact ⟨_, a₁, w₁, hq, .pass (x := .inLoop c) rfl (fun _ _ => .inl (by simp)) harr⟩
 | panic ch => exact ⟨_, a₁, w₁, hq, .pass (x := .inLoop c) rfl (fun _ _ => .inl (by simp)) harr⟩
 | outgrown => exact ⟨_, a₁, w₁, hq, .pass (x := .inLoop c) rfl (fun _ _ => .inl (by simp)) harr⟩
theorem code_v [Env] {call : Call' Prop} (hc : SoundCall P call) (hD : Drawn P call) (hnv : nv ≤ 512) (n : Nat) : ∀ (c : Code), codeOK nt c = true → ∀ (k : Ex → K Prop) (t : Tm) (l : Loc) (h : Heap) (a : Act) (w : World) (φ : Phi) (Q : Exit → Act → World → Prop),
  St G nt nv t l h a w φ → runC P False call nv n c k t l h → Post Q G nt nv h w φ k → c.wp P Q a w := by
 intro c
 induction c with
 | skip => intro _ k t l h a w φ Q s hk hQ; exact wp_skip (hQ .nx .normal _ _ _ _ _ _ s (Far.refl s.rel) hk rfl)
 | region i ops d =>
  intro ho k t l h a w φ Q s hk hQ
  cases d with
  | true => exact hD G nt nv i ops k t l h a w φ Q hnv ho s hk (fun t' l' h' a' w' φ' s' f hk' => hQ .nx .normal _ _ _ _ _ _ s' f hk' rfl) fun x c t' l' h' a' w' φ' s' f hk' hch => hQ (.pn x) (.panic c) _ _ _ _ _ _ s' f hk' ⟨c, rfl, hch⟩
  | false => exact region_v hc hnv ho s hk (fun t' l' h' a' w' φ' s' f hk' => hQ .nx .normal _ _ _ _ _ _ s' f hk' rfl) fun x c t' l' h' a' w' φ' s' f hk' hch => hQ (.pn x) (.panic c) _ _ _ _ _ _ s' f hk' ⟨c, rfl, hch⟩
 | seq x y ihx ihy =>
  intro ho k t l h a w φ Q s hk hQ
  have ho' : (codeOK nt x && codeOK nt y) = true := ho
  rw [Bool.and_eq_true] at ho'
  refine wp_seq (ihx ho'.1 (nxK (runC P False call nv n y k) k) t l h a w φ _ s hk ?_)
  intro e ex t' l' h' a' w' φ' s' f hk' hx
  cases e with
  | nx =>
   have hx : ex = .normal := hx
   subst hx
   exact ihy ho'.2 k t' l' h' a' w' φ' Q s' hk' fun e2 x2 t2 l2 h2 a2 w2 φ2 s2 f2 hk2 hx2 => hQ e2 x2 _ _ _ _ _ _ s2 (f.trans f2) hk2 hx2
  | ex i => have hx : ex = .exit i := hx; subst hx; exact hQ (.ex i) (.exit i) _ _ _ _ _ _ s' f hk' rfl
  | rt => have hx : ex = .ret := hx; subst hx; exact hQ .rt .ret _ _ _ _ _ _ s' f hk' rfl
  | pn v => obtain ⟨c, rfl, hch⟩ := hx; exact hQ (.pn v) (.panic c) _ _ _ _ _ _ s' f hk' ⟨c, rfl, hch⟩
 | cond c x y ihx ihy =>
  intro ho k t l h a w φ Q s hk hQ
  have ho' : (codeOK nt x && codeOK nt y) = true := ho
  rw [Bool.and_eq_true] at ho'
  have hk1 : condC False nv c (runC P False call nv n x k) (runC P False call nv n y k) t l h := hk
  unfold condC at hk1
  have hs := s.opnd c
  split at hk1
  ·rename_i q hq
   rw [hq] at hs
   unfold V at hs; rw [VRep] at hs
   refine wp_cond hs ?_
   cases q
   ·exact ihy ho'.2 k t l h a w φ Q s hk1 hQ
   ·exact ihx ho'.1 k t l h a w φ Q s hk1 hQ
  ·exact hk1.elim
 | block i x ih =>
  intro ho k t l h a w φ Q s hk hQ
  refine wp_block (ih ho (blockK i k) t l h a w φ _ s hk ?_)
  intro e ex t' l' h' a' w' φ' s' f hk' hx
  cases e with
  | nx => have hx : ex = .normal := hx; subst hx; exact hQ .nx .normal _ _ _ _ _ _ s' f hk' rfl
  | rt => have hx : ex = .ret := hx; subst hx; exact hQ .rt .ret _ _ _ _ _ _ s' f hk' rfl
  | pn v => obtain ⟨c, rfl, hch⟩ := hx; exact hQ (.pn v) (.panic c) _ _ _ _ _ _ s' f hk' ⟨c, rfl, hch⟩
  | ex j =>
   have hx : ex = .exit j := hx
   subst hx
   have hk2 : bi (Nat.beq j i) (k .nx) (k (.ex j)) t' l' h' := hk'
   show (if j = i then Q .normal a' w' else Q (.exit j) a' w')
   by_cases e : j = i
   ·rw [beq_iff.2 e] at hk2
    rw [if_pos e]
    exact hQ .nx .normal _ _ _ _ _ _ s' f hk2 rfl
   ·rw [if_neg e]
    have : Nat.beq j i = false := by cases hb : Nat.beq j i; rfl; exact absurd (beq_iff.1 hb) e
    rw [this] at hk2
    exact hQ (.ex j) (.exit j) _ _ _ _ _ _ s' f hk2 rfl
 | loop x ih =>
  intro ho k t l h a w φ Q s hk hQ
  have key : ∀ (m : Nat) (t : Tm) (l : Loc) (h : Heap) (a : Act) (w : World) (φ : Phi), St G nt nv t l h a w φ → loopC False (runC P False call nv n x) m k t l h → Post Q G nt nv h w φ k →
    ∀ (b : Frame) (kk : List Item) (cs : List Frame), ∃ e a' w', Q e a' w' ∧ Arrives P (lone (b.at a (.code x :: .inLoop x :: kk)) cs w) b kk cs e a' w' := by
   intro m
   induction m with
   | zero => intro t l h a w φ s hk hQ; exact hk.elim
   | succ m ihm =>
    intro t l h a w φ s hk hQ
    have hk1 : runC P False call nv n x (nxK (loopC False (runC P False call nv n x) m k) k) t l h := hk
    refine wp_loop_step (L := fun a' w' => ∃ t' l' h' φ', St G nt nv t' l' h' a' w' φ' ∧ Far G h w φ h' w' φ' ∧ loopC False (runC P False call nv n x) m k t' l' h') ?_ (ih ho _ t l h a w φ _ s hk1 ?_)
    ·rintro a' w' ⟨t', l', h', φ', s', f, hk'⟩
     exact ihm t' l' h' a' w' φ' s' hk' fun e2 x2 t2 l2 h2 a2 w2 φ2 s2 f2 hk2 hx2 => hQ e2 x2 _ _ _ _ _ _ s2 (f.trans f2) hk2 hx2
    ·intro e ex t' l' h' a' w' φ' s' f hk' hx
     cases e with
     | nx => have hx : ex = .normal := hx; subst hx; exact ⟨t', l', h', φ', s', f, hk'⟩
     | ex i => have hx : ex = .exit i := hx; subst hx; exact hQ (.ex i) (.exit i) _ _ _ _ _ _ s' f hk' rfl
     | rt => have hx : ex = .ret := hx; subst hx; exact hQ .rt .ret _ _ _ _ _ _ s' f hk' rfl
     | pn v => obtain ⟨c, rfl, hch⟩ := hx; exact hQ (.pn v) (.panic c) _ _ _ _ _ _ s' f hk' ⟨c, rfl, hch⟩
  intro b kk cs
  obtain ⟨e, a', w', q, r⟩ := key n t l h a w φ s hk hQ b kk cs
  exact ⟨e, a', w', q, .of_steps (.one step_loop) r⟩
 | scope x ih =>
  intro ho k t l h a w φ Q s hk hQ
  refine wp_scope_straight (ih ho k t l h a w φ _ s hk ?_)
  intro e ex t' l' h' a' w' φ' s' f hk' hx
  cases e with
  | nx => have hx : ex = .normal := hx; subst hx; exact hQ .nx .normal _ _ _ _ _ _ s' f hk' rfl
  | ex i => have hx : ex = .exit i := hx; subst hx; exact hQ (.ex i) (.exit i) _ _ _ _ _ _ s' f hk' rfl
  | rt => have hx : ex = .ret := hx; subst hx; exact hQ .rt .ret _ _ _ _ _ _ s' f hk' rfl
  | pn v => obtain ⟨c, rfl, hch⟩ := hx; exact hQ (.pn v) (.panic c) _ _ _ _ _ _ s' f hk' ⟨c, rfl, hch⟩
 | label i => intro _ k t l h a w φ Q s hk hQ; exact wp_label (hQ .nx .normal _ _ _ _ _ _ s (Far.refl s.rel) hk rfl)
 | exit i => intro _ k t l h a w φ Q s hk hQ; exact wp_exit (hQ (.ex i) (.exit i) _ _ _ _ _ _ s (Far.refl s.rel) hk rfl)
 | ret => intro _ k t l h a w φ Q s hk hQ; exact wp_ret (hQ .rt .ret _ _ _ _ _ _ s (Far.refl s.rel) hk rfl)
 | _ => intro _ k t l h a w φ Q s hk hQ; exact hk.elim
end
end Go.Zev

/-
  Calls: what is handed back, frozen values, the evaluator's calls are the program's.
-/
set_option linter.unusedSimpArgs false
set_option linter.unusedVariables false
namespace Go.Zev
open Go
section
variable {P : Program} {G : Bad} {h h' h1 h2 : Heap} {w w' w1 w2 : World} {φ φ' φ1 φ2 : Phi} {id nt nv : Nat} {t : Tm} {l : Loc} {a : Act} {bad : Bad}
theorem refs_list {n : Nat} (ih : ∀ x v, refs n x = false → VRep w φ bad x v → FRep w bad x v) : ∀ {xs : List AV} {vs : List Value}, lany (refs n) xs = false → VReps w φ bad xs vs → FReps w bad xs vs
 | [], vs, _, h => by rw [VReps] at h; subst h; rw [FReps]
 | x :: xs, vs, hr, h => by
  rw [VReps] at h
  obtain ⟨u, us, rfl, h1, h2⟩ := h
  rw [lany_eq, List.any_cons, Bool.or_eq_false_iff] at hr
  rw [FReps]
  exact ⟨u, us, rfl, ih x u hr.1 h1, refs_list ih (by rw [lany_eq]; exact hr.2) h2⟩
theorem refs_F [Env] : ∀ (n : Nat) (x : AV) (v : Value), refs n x = false → VRep w φ bad x v → FRep w bad x v
 | 0, x, v, hr, _ => by cases hr
 | n + 1, x, v, hr, hv => by
  have lst := fun (xs : List AV) (vs : List Value) (h1 : lany (refs n) xs = false) (h2 : VReps w φ bad xs vs) => refs_list (refs_F n) h1 h2
  cases x with
  | p b i o => cases hr
  | sl b s st l c f => cases hr
  | mp b => cases hr
  | it b => cases hr
  | fn f x y =>
   have hr' : (lany (refs n) x || lany (refs n) y) = false := hr
   rw [Bool.or_eq_false_iff] at hr'
   rw [VRep] at hv; rw [FRep]
   obtain ⟨xs, ys, e, h1, h2⟩ := hv
   exact ⟨xs, ys, e, lst _ _ hr'.1 h1, lst _ _ hr'.2 h2⟩
  | ifc t x =>
   rw [VRep] at hv; rw [FRep]
   obtain ⟨u, e, h1⟩ := hv
   exact ⟨u, e, refs_F n x u hr h1⟩
  | agg cs =>
   rw [VRep] at hv; rw [FRep]
   obtain ⟨vs, e, h1⟩ := hv
   exact ⟨vs, e, lst _ _ hr h1⟩
  | tup cs =>
   rw [VRep] at hv; rw [FRep]
   obtain ⟨vs, e, h1⟩ := hv
   exact ⟨vs, e, lst _ _ hr h1⟩
  | fp cs => rw [VRep] at hv; exact hv
  | fs s f el => rw [VRep] at hv; exact hv
  | _ => rw [VRep] at hv; rw [FRep]; exact hv
theorem bad_goes (w : World) (h : Heap) (φ : Phi) (G : Bad) : Goes w (BadOf G h φ) w G := fun b off u hc hb => ⟨hc, fun hg => hb (.inl hg)⟩
theorem frz_list {n : Nat} (ih : ∀ x y v, frz h n x = some y → V w φ G h x v → FRep w G y v) {xs ys : List AV} {vs : List Value} (hx : lmapO (frz h n) xs = some ys) (hv : VReps w φ (BadOf G h φ) xs vs) : FReps w G ys vs := by
 obtain ⟨h1, h2⟩ := lmapO_some hx
 refine FReps.of_at (by rw [← h1, hv.length]) fun i y hy => ?_
 have hi : i < xs.length := by rw [h1]; exact (List.getElem?_eq_some_iff.1 hy).1
 obtain ⟨y', h3, h4⟩ := h2 i _ (List.getElem?_eq_getElem hi)
 rw [hy] at h3; injection h3 with h3; subst h3
 obtain ⟨v, h5, h6⟩ := hv.at i _ (List.getElem?_eq_getElem hi)
 exact ⟨v, h5, ih _ _ _ h4 h6⟩
theorem frz_F [Env] (hr : HRel G h w φ) : ∀ (n : Nat) (x y : AV) (v : Value), frz h n x = some y → V w φ G h x v → FRep w G y v
 | 0, x, y, v, he, _ => by cases he
 | n + 1, x, y, v, he, hv => by
  have lst := fun {xs ys : List AV} {vs : List Value} (h1 : lmapO (frz h n) xs = some ys) (h2 : VReps w φ (BadOf G h φ) xs vs) => frz_list (frz_F hr n) h1 h2
  unfold V at hv
  cases x with
  | p b i o =>
   have he1 : (match h.get b with
    | .cells _ el => ob (lnth el i) fun c => ob (lmapO (frz h n) (ldrop c o)) fun c => some (AV.fp c)
    | _ => none) = some y := he
   cases hg : h.get b with
   | cells s el =>
    rw [hg] at he1
    obtain ⟨c, hc, he2⟩ := ob_prop he1
    obtain ⟨c', h2, he3⟩ := ob_prop he2
    injection he3 with he3
    subst he3
    rw [lnth_eq] at hc
    rw [ldrop_eq] at h2
    obtain ⟨h3, h4⟩ := lmapO_some h2
    rw [VRep] at hv
    obtain ⟨cb, sz, m, hφ, rfl⟩ := hv
    have hraw := Heap.get_raw hg (by intro e; cases e)
    have hne : h.raw b ≠ .none := by rw [hraw]; intro e; cases e
    obtain ⟨hG, _, hbr⟩ := hr.blk b cb sz m hne hφ
    rw [hraw] at hbr
    obtain ⟨rfl, cs, ty, hw, hcs, hel0, hel⟩ := hbr
    obtain ⟨h10, h11⟩ := hel _ _ hc
    rw [FRep]
    refine ⟨cb, i * s + o, rfl, FCells.of_at cb c' _ fun j y hy => ?_⟩
    have hjl : j < (c.drop o).length := by rw [h3]; exact (List.getElem?_eq_some_iff.1 hy).1
    obtain ⟨y', h14, h15⟩ := h4 j _ (List.getElem?_eq_getElem hjl)
    rw [hy] at h14; injection h14 with h14; subst h14
    have hq : c[o + j]? = some ((c.drop o)[j]'hjl) := by rw [← List.getElem?_eq_getElem hjl, List.getElem?_drop]
    obtain ⟨u, h16, h17⟩ := h11 (o + j) _ hq
    refine ⟨u, ?_, hG, frz_F hr n _ _ _ h15 h17⟩
    unfold World.cell?
    rw [hw]
    simpa [Nat.add_assoc] using h16
   | none => rw [hg] at he1; cases he1
   | iter _ _ _ => rw [hg] at he1; cases he1
   | map _ => rw [hg] at he1; cases he1
  | mp b => cases he
  | it b => cases he
  | sl b sz st len c full =>
   have he1 : (match h.get b with
    | .cells _ el => (fun l => bi (lhas l len) (ob (lmapO (lmapO (frz h n)) l) fun l => some (AV.fs sz full l)) none) (ltake (ldrop el st) len)
    | _ => none) = some y := he
   cases hg : h.get b with
   | cells s el =>
    rw [hg] at he1
    obtain ⟨h1, he2⟩ := bi_none (c := lhas (ltake (ldrop el st) len) len) he1
    obtain ⟨el', h2, he3⟩ := ob_prop he2
    injection he3 with he3
    subst he3
    have h1 := lhas_iff.1 h1
    rw [ltake_eq, ldrop_eq] at h1 h2
    obtain ⟨h3, h4⟩ := lmapO_some h2
    rw [VRep] at hv
    obtain ⟨cb, m, a, cp, hφ, rfl, _, h5, h6, h7⟩ := hv
    have hraw := Heap.get_raw hg (by intro e; cases e)
    have hne : h.raw b ≠ .none := by rw [hraw]; intro e; cases e
    obtain ⟨hG, _, hbr⟩ := hr.blk b cb sz m hne hφ
    rw [hraw] at hbr
    obtain ⟨rfl, cs, ty, hw, hcs, hel0, hel⟩ := hbr
    have hlen : el'.length = len := by rw [← h3, h1]
    rw [FRep]
    refine ⟨a, cp, by rw [hlen], by rw [hlen]; exact h5, fun e => by rw [hlen]; exact h6 e, fun hne' => ?_⟩
    have hpos : 0 < len := by
     rw [← hlen]; exact List.length_pos_iff.2 hne'
    obtain ⟨rfl, _⟩ := h7 (.inl hpos)
    refine ⟨cb, st * s, rfl, FEls.of_at s cb el' (st * s) fun i e hi => ?_⟩
    have hil : i < ((el.drop st).take len).length := by rw [h3]; exact (List.getElem?_eq_some_iff.1 hi).1
    obtain ⟨e', h8, h9⟩ := h4 i _ (List.getElem?_eq_getElem hil)
    rw [hi] at h8; injection h8 with h8; subst h8
    have hq : el[st + i]? = some (((el.drop st).take len)[i]'hil) := by
     rw [← List.getElem?_eq_getElem hil, List.getElem?_take, if_pos (by omega), List.getElem?_drop]
    obtain ⟨h10, h11⟩ := hel _ _ hq
    obtain ⟨h12, h13⟩ := lmapO_some h9
    refine ⟨by rw [← h12, h10], FCells.of_at cb e _ fun j y hy => ?_⟩
    have hjl : j < (((el.drop st).take len)[i]'hil).length := by rw [h12]; exact (List.getElem?_eq_some_iff.1 hy).1
    obtain ⟨y', h14, h15⟩ := h13 j _ (List.getElem?_eq_getElem hjl)
    rw [hy] at h14; injection h14 with h14; subst h14
    obtain ⟨u, h16, h17⟩ := h11 j _ (List.getElem?_eq_getElem hjl)
    refine ⟨u, ?_, hG, frz_F hr n _ _ _ h15 h17⟩
    unfold World.cell?
    rw [hw]
    rw [Nat.add_mul] at h16
    simpa using h16
   | none => rw [hg] at he1; cases he1
   | iter _ _ _ => rw [hg] at he1; cases he1
   | map _ => rw [hg] at he1; cases he1
  | fn f x z =>
   have he1 : (ob (lmapO (frz h n) x) fun a => ob (lmapO (frz h n) z) fun c => some (AV.fn f a c)) = some y := he
   obtain ⟨x', h1, he1⟩ := ob_prop he1
   obtain ⟨z', h2, he1⟩ := ob_prop he1
   injection he1 with he1
   subst he1
   rw [VRep] at hv; rw [FRep]
   obtain ⟨xs, ys, e, h3, h4⟩ := hv
   exact ⟨xs, ys, e, lst h1 h3, lst h2 h4⟩
  | ifc t x =>
   have he1 : (ob (frz h n x) fun v => some (AV.ifc t v)) = some y := he
   obtain ⟨x', h1, he1⟩ := ob_prop he1
   injection he1 with he1
   subst he1
   rw [VRep] at hv; rw [FRep]
   obtain ⟨u, e, h2⟩ := hv
   exact ⟨u, e, frz_F hr n _ _ _ h1 h2⟩
  | agg cs =>
   have he1 : (ob (lmapO (frz h n) cs) fun v => some (AV.agg v)) = some y := he
   obtain ⟨x', h1, he1⟩ := ob_prop he1
   injection he1 with he1
   subst he1
   rw [VRep] at hv; rw [FRep]
   obtain ⟨vs, e, h2⟩ := hv
   exact ⟨vs, e, lst h1 h2⟩
  | tup cs =>
   have he1 : (ob (lmapO (frz h n) cs) fun v => some (AV.tup v)) = some y := he
   obtain ⟨x', h1, he1⟩ := ob_prop he1
   injection he1 with he1
   subst he1
   rw [VRep] at hv; rw [FRep]
   obtain ⟨vs, e, h2⟩ := hv
   exact ⟨vs, e, lst h1 h2⟩
  | pn x => rw [VRep] at hv; exact hv.elim
  | fp cs => cases he; rw [VRep] at hv; exact FRep.mono (bad_goes w h φ G) _ _ hv
  | fs s f el => cases he; rw [VRep] at hv; exact FRep.mono (bad_goes w h φ G) _ _ hv
  | _ => cases he; rw [VRep] at hv; rw [FRep]; exact hv
theorem load1_some {x : AV} {y : AV} (hk : load1 none h x some = some y) : load1 False h x (· = y) := by
 unfold load1 at hk ⊢
 cases hr : rd h x 1 with
 | none => rw [hr] at hk; cases hk
 | some cs =>
  rw [hr] at hk
  have hk : on none (lnth cs 0) some = some y := hk
  show on False (lnth cs 0) (· = y)
  cases hl : lnth cs 0 with
  | none => rw [hl] at hk; cases hk
  | some c => rw [hl] at hk; injection hk
theorem loadN_some {x : AV} {y : AV} {n : Nat} (hk : loadN none h n x some = some y) : loadN False h n x (· = y) := by
 unfold loadN at hk ⊢
 cases hr : rd h x n with
 | none => rw [hr] at hk; cases hk
 | some cs => rw [hr] at hk; injection hk
theorem loadA_some [Env] {ty : TypeId} {x : AV} {y : AV} (hk : loadA P none h ty x some = some y) : loadA P False h ty x (· = y) := by
 unfold loadA at hk ⊢
 cases h1 : knownT P ty with
 | false => rw [h1] at hk; cases hk
 | true =>
  rw [h1] at hk
  cases h2 : isAggT P ty with
  | false => rw [h2] at hk; exact load1_some hk
  | true =>
   rw [h2] at hk
   have hk : bi (Nat.blt 0 (szOf P ty)) (loadN none h (szOf P ty) x some) none = some y := hk
   show bi (Nat.blt 0 (szOf P ty)) (loadN False h (szOf P ty) x (· = y)) False
   cases h3 : Nat.blt 0 (szOf P ty) with
   | false => rw [h3] at hk; cases hk
   | true => rw [h3] at hk; exact loadN_some hk
def resOK (nv : Nat) (r : ResultVar) : Bool := match r with | .tmp k => Nat.blt k nv | .cell a _ => Nat.blt a nv
theorem slot_lt {k : Nat} (hk : k < nv) : slot nv t l k = Tm.get t k := by rw [slot_eq, if_pos hk]
def resOf (tmps : Array Value) (r : ResultVar) : Sem Value := match r with | .tmp t => pure (tmps.getD t undef) | .cell q t => do loadVar t (← asAddr (tmps.getD q undef))
theorem results_eq (fn : Func) (tmps : Array Value) : results fn tmps = (do let vs ← fn.results.mapM (resOf tmps); pure (if h : vs.size = 1 then vs[0] else .tuple vs)) := rfl
theorem results_list [Env] (s : St G nt nv t l h a w φ) : ∀ (rs : List ResultVar) (avs : List AV), (∀ r ∈ rs, resOK nv r = true) → lmapO (result1 P t h) rs = some avs →
  ∃ vs, (rs.mapM (resOf a.tmps)).run P w = .ok vs w ∧ VReps w φ (BadOf G h φ) avs vs
 | [], avs, _, hl => by
  cases hl
  exact ⟨[], rfl, by rw [VReps]⟩
 | r :: rs, avs, hr, hl => by
  have hl' : (ob (result1 P t h r) fun y => ob (lmapO (result1 P t h) rs) fun r => some (y :: r)) = some avs := hl
  cases h1 : result1 P t h r with
  | none => rw [h1] at hl'; cases hl'
  | some y =>
   rw [h1] at hl'
   cases h2 : lmapO (result1 P t h) rs with
   | none => rw [h2] at hl'; cases hl'
   | some ys =>
    rw [h2] at hl'
    injection hl' with hl'
    subst hl'
    obtain ⟨vs, h3, h4⟩ := results_list s rs ys (fun r' hr' => hr r' (List.mem_cons_of_mem _ hr')) h2
    have hok := hr r (List.mem_cons_self ..)
    have one : ∃ v, (resOf a.tmps r).run P w = .ok v w ∧ V w φ G h y v := by
     cases r with
     | tmp k =>
      have hk := blt_iff.1 hok
      cases h1
      have := s.slots k
      rw [slot_lt hk] at this
      exact ⟨_, rfl, this⟩
     | cell q ty =>
      have hk := blt_iff.1 hok
      have hs := s.slots q
      rw [slot_lt hk] at hs
      obtain ⟨av, rfl, v, hrun, hv⟩ := load_v s.rel hs (loadA_some h1)
      refine ⟨v, ?_, hv⟩
      have hx : ∃ ad, a.tmps.getD q undef = .pointer (some ad) := by
       cases hz : a.tmps.getD q undef with
       | pointer ad =>
        cases ad with
        | some ad => exact ⟨ad, rfl⟩
        | none => rw [hz] at hrun; simp [Instr.loadAt, Instr.sureAddr, Sem.run_bind, stuck, Sem.run] at hrun
       | _ => rw [hz] at hrun; simp [Instr.loadAt, Instr.sureAddr, Sem.run_bind, stuck, Sem.run] at hrun
      obtain ⟨ad, hz⟩ := hx
      rw [hz] at hrun
      unfold resOf
      dsimp only
      rw [hz]
      simp only [Instr.loadAt, Instr.sureAddr, Sem.run_bind, Sem.run_pure, Result.andThen_ok, asAddr] at hrun ⊢
      exact hrun
    obtain ⟨v, h5, h6⟩ := one
    refine ⟨v :: vs, ?_, by rw [VReps]; exact ⟨v, vs, rfl, h6, h4⟩⟩
    rw [List.mapM_cons, Sem.run_bind, h5, Result.andThen_ok, Sem.run_bind, h3, Result.andThen_ok]
    rfl
theorem results_v [Env] (s : St G nt nv t l h a w φ) {fn : Func} {av : AV} (hr : lall (resOK nv) fn.results.toList = true) (hk : resultsA P t h fn.results.toList = some av) :
  ∃ v, (results fn a.tmps).run P w = .ok v w ∧ V w φ G h av v := by
 rw [lall_eq, List.all_eq_true] at hr
 unfold resultsA at hk
 obtain ⟨avs, h1, hk⟩ := ob_prop hk
 obtain ⟨vs, h2, h3⟩ := results_list s _ avs hr h1
 rw [results_eq, Sem.run_bind, Array.mapM_eq_mapM_toList, Sem.run_map, h2]
 simp only [Result.andThen_ok]
 have hlen := h3.length
 cases avs with
 | nil =>
  rw [VReps] at h3; subst h3
  cases hk
  exact ⟨_, rfl, by show VRep _ _ _ _ (.tuple #[]); rw [VRep]; exact ⟨#[], rfl, by rw [VReps]⟩⟩
 | cons y ys =>
  cases ys with
  | nil =>
   cases hk
   rw [VReps] at h3
   obtain ⟨u, us, rfl, h4, h5⟩ := h3
   rw [VReps] at h5; subst h5
   exact ⟨u, rfl, h4⟩
  | cons z zs =>
   cases hk
   have hne : ¬ vs.toArray.size = 1 := by
    rw [List.size_toArray, ← hlen]; simp
   refine ⟨.tuple vs.toArray, ?_, by show VRep _ _ _ _ _; rw [VRep]; exact ⟨_, rfl, by simpa using h3⟩⟩
   rw [dif_neg hne]
   rfl
def Fact [Env] (P : Program) (f : FuncId) (args : List AV) (av : AV) : Prop :=
 ∀ (G : Bad) (h : Heap) (w : World) (φ : Phi) (vs : Array Value), HRel G h w φ → VReps w φ (BadOf G h φ) args vs.toList →
  Enter P f ∧ Calls P f vs w fun e w' => ∃ v φ', e = .returned v ∧ V w' φ' G h av v ∧ Far G h w φ h w' φ'
structure IsOv (P : Program) (f : FuncId) : Prop where
 ok : ∃ fn tS tR e size, P.funcs[f]? = some fn ∧ (fn.name == "runtime.NumGoroutine") = false ∧ fn.body.isNone = true ∧ Extern.findNext fn = none ∧ Extern.find fn = some (Extern.SlicesOverlaps.overlaps #[tS, tS] #[tR]) ∧
  P.underlying tS = some (.slice e) ∧ ∀ w, (Go.sizeOf e).run P w = .ok size w
theorem ov_v [Env] {G : Bad} {h : Heap} {w : World} {φ : Phi} {f : FuncId} (ho : IsOv P f) {args : List AV} {vs : Array Value} {k : AV → Heap → Prop} (hr : HRel G h w φ) (hv : VReps w φ (BadOf G h φ) args vs.toList) (hk : ovN False args h k) :
  k (.b false) h ∧ (callFunc f vs).run P w = .ok (.value (.bool false)) w := by
 unfold ovN at hk
 split at hk
 ·rename_i b1 s1 t1 n1 c1 f1 b2 s2 t2 n2 c2 f2
  obtain ⟨hb, hk⟩ := bi_prop hk
  simp only [Bool.and_eq_true, Bool.not_eq_true'] at hb
  obtain ⟨⟨⟨⟨⟨q1, q2⟩, q3⟩, q4⟩, q5⟩, q6⟩ := hb
  refine ⟨hk, ?_⟩
  rw [VReps] at hv
  obtain ⟨u1, us, hvs, hv1, hv⟩ := hv
  rw [VReps] at hv
  obtain ⟨u2, us2, rfl, hv2, hv⟩ := hv
  rw [VReps] at hv
  subst hv
  rw [VRep] at hv1 hv2
  obtain ⟨cb1, m1, a1, k1, hφ1, rfl, _, _, _, e1⟩ := hv1
  obtain ⟨cb2, m2, a2, k2, hφ2, rfl, _, g2, _, e2⟩ := hv2
  have p1 := blt_iff.1 q2
  have p2 := blt_iff.1 q3
  have p3 := blt_iff.1 q4
  obtain ⟨rfl, _⟩ := e1 (.inl p1)
  obtain ⟨rfl, hfit⟩ := e2 (.inl p2)
  have blk : ∀ {b cb sz n : Nat}, isCellsB (h.get b) = true → φ b = some (cb, sz, n) → h.raw b ≠ .none ∧ ∃ c et, w.heap[cb]? = some (.cells c et (0, 0)) ∧ c.size = n := by
   intro b cb sz n hc hφ
   cases hg : h.get b with
   | cells s' el =>
    have hraw := Heap.get_raw hg (by intro e; cases e)
    have hne : h.raw b ≠ .none := by rw [hraw]; intro e; cases e
    obtain ⟨_, _, hbr⟩ := hr.blk b cb sz n hne hφ
    rw [hraw] at hbr
    obtain ⟨_, c, et, hw, hcs, _⟩ := hbr
    exact ⟨hne, c, et, hw, hcs⟩
   | none => rw [hg] at hc; cases hc
   | iter _ _ _ => rw [hg] at hc; cases hc
   | map _ => rw [hg] at hc; cases hc
  obtain ⟨r1, ca, ta, hwa, hca⟩ := blk q5 hφ1
  obtain ⟨r2, cc, tc, hwc, hcc⟩ := blk q6 hφ2
  have hne : cb1 ≠ cb2 := fun e => by
   subst e
   have := hr.inj b1 b2 cb1 s1 m1 s2 m2 r1 r2 hφ1 hφ2
   subst this
   rw [beq_iff.2 rfl] at q1
   cases q1
  have hm2 : cc.size ≠ 0 := by
   have : 0 < k2 * s2 := Nat.mul_pos (by omega) p3
   omega
  have hvs' : vs = #[.slice (some ⟨cb1, t1 * s1, none⟩) n1 k1, .slice (some ⟨cb2, t2 * s2, none⟩) n2 k2] := by
   rw [← Array.toArray_toList (xs := vs), hvs]
  subst hvs'
  obtain ⟨fn, tS, tR, e, size, o1, o2, o3, o4, o5, o6, o7⟩ := ho.ok
  rw [run_callFunc_extern o1 o2 o3 o4 o5]
  rw [Lib.run_overlaps_apart w tS tR e o6 size o7 ⟨cb1, t1 * s1, none⟩ ⟨cb2, t2 * s2, none⟩ n1 k1 n2 k2 hne ta tc ca.size cc.size (by simp [World.shape?, hwa]) (by simp [World.shape?, hwc]) hm2 (by simp [World.frozen?, hwa]) (by simp [World.frozen?, hwa])]
  rfl
 ·exact hk.elim
structure CfgOK [Env] (P : Program) (c : Cfg) : Prop where
 ov : ∀ f, c.ov f = true → IsOv P f
 memo : ∀ f args av, memoOf c f args = some av → Fact P f args av
 nv : ∀ f, c.nv f ≤ 512
 code : ∀ f q, bodyOf P f = some q → codeOK q.nt q.code = true
 res : ∀ f q, bodyOf P f = some q → lall (resOK (c.nv f)) q.rs = true
 name : ∀ (f : FuncId) (fn : Func), P.funcs[f]? = some fn → (fn.name == "runtime.NumGoroutine") = false
theorem bodyOf_some {f : FuncId} {q : Body} (hq : bodyOf P f = some q) : ∃ fn, P.funcs[f]? = some fn ∧ fn.body = some q.code ∧ q.rs = fn.results.toList ∧ q.nt = fn.ntmps := by
 unfold bodyOf at hq
 cases hf : P.funcs[f]? with
 | none => rw [hf] at hq; cases hq
 | some fn =>
  rw [hf] at hq
  dsimp only at hq
  cases hb : fn.body with
  | none => rw [hb] at hq; cases hq
  | some c => rw [hb] at hq; injection hq with hq; subst hq; exact ⟨fn, rfl, hb, rfl, rfl⟩
theorem ofList_get : ∀ (args : List AV) (k : Nat) (t : Tm) (j : Nat), k + args.length ≤ 512 → j < 512 → Tm.get (Tm.ofList args k t) j = if k ≤ j ∧ j < k + args.length then (args[j - k]?).getD .un else Tm.get t j
 | [], k, t, j, _, _ => by rw [if_neg (by simp)]; rfl
 | x :: xs, k, t, j, h1, h2 => by
  rw [List.length_cons] at h1
  show Tm.get (Tm.ofList xs (k + 1) (Tm.set t k x)) j = _
  rw [ofList_get xs (k + 1) _ j (by omega) h2, List.length_cons]
  by_cases e : k = j
  ·subst e
   rw [if_neg (by omega), if_pos (by omega), Tm.get_set _ _ (by omega) (by omega), if_pos rfl]
   simp
  ·by_cases h3 : k + 1 ≤ j ∧ j < k + 1 + xs.length
   ·rw [if_pos h3, if_pos (by omega), show j - k = (j - (k + 1)) + 1 by omega]
    simp
   ·rw [if_neg h3, if_neg (by omega), Tm.get_set _ _ (by omega) (by omega), if_neg (fun x => e x.symm)]
theorem st_enter [Env] (hr : HRel G h w φ) {args : List AV} {vs : Array Value} (hv : VReps w φ (BadOf G h φ) args vs.toList) (hl : args.length ≤ 500) (hnv : nv ≤ 512) (nt : Nat) :
  St G nt nv (Tm.ofList args 0 Tm.nil) [] h { tmps := vs ++ Array.replicate (nt - vs.size) undef, defers := [] } w φ := by
 have hlen : args.length = vs.size := by rw [hv.length]; simp
 refine ⟨hr, by simp; omega, fun k => ?_, ?_⟩
 rotate_left
 ·split
  ·rfl
  ·exact .inl ⟨by rw [ofList_get _ _ _ _ (by omega) (by omega), if_neg (by omega), Tm.get_nil], rfl⟩
 rw [slot_eq]
 split
 ·rename_i hk
  rw [ofList_get _ _ _ _ (by omega) (by omega), Tm.get_nil]
  split
  ·rename_i h1
   rw [Nat.sub_zero]
   obtain ⟨v, h2, h3⟩ := hv.at k _ (List.getElem?_eq_getElem (by omega))
   rw [List.getElem?_eq_getElem (by omega), Option.getD_some]
   have h4 : (vs ++ Array.replicate (nt - vs.size) undef).getD k undef = v := by
    rw [Array.getD_eq_getD_getElem?, Array.getElem?_append, if_pos (by omega)]
    rw [Array.getElem?_toList] at h2
    rw [h2]; rfl
   dsimp only
   rw [h4]
   exact h3
  ·exact V.un _
 ·exact V.un _
theorem ext_own [Env] {O : Bad} (he : Ext O w w') (hO : ∀ k, ¬ O k) (hr : HRel G h w φ) : Far G h w φ h w' φ := by
 have hext : Ext (Own h φ) w w' := ⟨he.os, he.tape, he.output, he.size, fun k hk _ => he.block k hk (hO k), he.frozen⟩
 have hgo : Goes w (BadOf G h φ) w' (BadOf G h φ) := he.goes (fun k hk => absurd hk (hO k)) (fun k _ hb => hb)
 refine ⟨⟨fun b cb sz n h1 h2 => ?_, hr.has, hr.lt, fun k hk => Nat.lt_of_lt_of_le (hr.gOld k hk) he.size, hr.inj, hr.pins hext fun _ q => q⟩, PhiLe.refl _, hext, fun _ _ h => h, Nat.le_refl _, fun _ _ _ => rfl⟩
 obtain ⟨h3, h4, h5⟩ := hr.blk b cb sz n h1 h2
 exact ⟨h3, Nat.lt_of_lt_of_le h4 he.size, h5.mono hgo (PhiLe.refl _) (he.block cb h4 (hO cb))⟩
theorem chain_frz [Env] (hr : HRel G h w φ) {x : AV} {c : List PanicEntry} {y : AV} (hy : frz h 200 (.pn x) = some y) (hch : Chain (V w φ G h x) c) : ∃ z, y = .pn z ∧ Chain (fun v => FRep w G z v) c := by
 have he : (ob (frz h 199 x) fun v => some (AV.pn v)) = some y := hy
 obtain ⟨z, h1, h2⟩ := ob_prop he
 injection h2 with h2
 subst h2
 exact ⟨z, rfl, hch.imp fun v hv => frz_F hr 199 x z v h1 hv⟩
theorem MRep.ne {p : AV → Value → Prop} {st : AV} {u : FrameMode} (m : MRep p st u) : u ≠ .run := by
 rcases m with ⟨_, rfl | ⟨v, o, rfl, _⟩⟩ | ⟨x, c, _, rfl, _⟩ <;> simp
theorem MRep.imp {p q : AV → Value → Prop} {st : AV} {u : FrameMode} (m : MRep p st u) (h : ∀ x v, p x v → q x v) : MRep q st u := by
 rcases m with h1 | ⟨x, c, h1, h2, h3⟩
 ·exact .inl h1
 ·exact .inr ⟨x, c, h1, h2, h3.imp (h x)⟩
def SRep (p : AV → Value → Prop) (st : AV) (u : FrameMode) : Prop := (st = .tup [] ∧ u = .returning) ∨ ∃ x c, st = .tup [x] ∧ u = .panicking c ∧ Chain (p x) c
theorem SRep.m {p : AV → Value → Prop} {st : AV} {u : FrameMode} (m : SRep p st u) : MRep p st u := by
 rcases m with ⟨h1, h2⟩ | h
 ·exact .inl ⟨h1, .inl h2⟩
 ·exact .inr h
theorem drop_all {β : Type} {p : β → Bool} : ∀ (l : List β), (∀ e ∈ l, p e = true) → l.dropWhile p = []
 | [], _ => rfl
 | x :: l, h => by
  rw [List.dropWhile_cons, if_pos (h x (List.mem_cons_self ..))]
  exact drop_all l fun e he => h e (List.mem_cons_of_mem _ he)
theorem settle_rep [Env] {p : AV → Value → Prop} {st : AV} {u : FrameMode} (m : MRep p st u) : SRep p st (settle u) := by
 rcases m with ⟨h1, rfl | ⟨v, o, rfl, ho⟩⟩ | ⟨x, c, h1, rfl, v, o, rfl, h3, h4⟩
 ·exact .inl ⟨h1, rfl⟩
 ·refine .inl ⟨h1, ?_⟩
  have : o.dropWhile (fun e => !e.goexit) = [] := by
   exact drop_all _ fun e he => by simp [ho e he]
  simp [settle, this]
 ·exact .inr ⟨x, _, h1, rfl, v, o, rfl, h3, h4⟩
def Stays (u : FrameMode) : Prop := u = .returning ∨ ∃ l, u = .panicking l ∧ ∀ e ∈ l, e.goexit = false
theorem MRep.stays {p : AV → Value → Prop} {st : AV} {u : FrameMode} (m : MRep p st u) : Stays u := by
 rcases m with ⟨_, rfl | ⟨v, o, rfl, ho⟩⟩ | ⟨x, c, _, rfl, v, o, rfl, _, h4⟩
 ·exact .inl rfl
 ·refine .inr ⟨_, rfl, fun e he => ?_⟩
  cases he with
  | head => rfl
  | tail _ h => exact ho e h
 ·refine .inr ⟨_, rfl, fun e he => ?_⟩
  cases he with
  | head => rfl
  | tail _ h => exact h4 e h
theorem raised_rep {p : AV → Value → Prop} {x : AV} {c : List PanicEntry} {u : FrameMode} (hs : Stays u) (hch : Chain (p x) c) : SRep p (.tup [x]) (raised u c) := by
 obtain ⟨v, o, rfl, h1, h2⟩ := hch
 rcases hs with rfl | ⟨l, rfl, hl⟩
 ·exact .inr ⟨x, _, rfl, rfl, v, o, rfl, h1, h2⟩
 ·refine .inr ⟨x, _, rfl, rfl, v, o ++ l, rfl, h1, fun e he => ?_⟩
  rcases List.mem_append.1 he with h | h
  ·exact h2 e h
  ·exact hl e h
theorem run_recover {o : Oper} {e : Operand → Value} (h4 : kindP o.op = 4) : (execOp e o).run P w = .ok .recover w := by
 cases hop : o.op <;> rw [hop] at h4 <;> first | (exact absurd h4 (by show ¬ (0 = 4); decide)) | (exact absurd h4 (by show ¬ (2 = 4); decide)) | (exact absurd h4 (by show ¬ (3 = 4); decide)) | skip
 rename_i c
 have h5 : (match c.callee with | .value _ => 1 | .builtin .recover => 4 | _ => 0) = 4 := h4
 split at h5 <;> first | (cases h5; done) | skip
 rename_i hc
 simp only [execOp, hop, resolve, hc, pure_bind, invoke, builtin]
 rfl
theorem recA_v {p : AV → Value → Prop} {st : AV} {u : FrameMode} (m : MRep p st u) (hn : ∀ {q : Value}, p .nifc q ↔ q = .nilIface) {c0 : Frame} {cs : List Frame} {k : AV → AV → Prop} (hk : recA False st k) :
  ∃ av v st' u', k av st' ∧ p av v ∧ MRep p st' u' ∧ ((recoverD ({ c0 with mode := u } :: cs) = some (v, { c0 with mode := u' } :: cs)) ∨ (recoverD ({ c0 with mode := u } :: cs) = none ∧ v = .nilIface ∧ u' = u)) := by
 rcases m with ⟨rfl, hu⟩ | ⟨x, c, rfl, rfl, v, o, rfl, h3, h4⟩
 ·have hk : k .nifc (.tup []) := hk
  refine ⟨_, .nilIface, _, u, hk, hn.2 rfl, .inl ⟨rfl, hu⟩, .inr ⟨?_, rfl, rfl⟩⟩
  rcases hu with rfl | ⟨v, o, rfl, ho⟩ <;> rfl
 ·have hk : k x (.tup []) := hk
  exact ⟨x, v, _, .panicking ({ v := v, recovered := true } :: o), hk, h3, .inl ⟨rfl, .inr ⟨v, o, rfl, h4⟩⟩, .inl rfl⟩
theorem runR'_v [Env] {call : Call' Prop} (hc : SoundCall P call) (hnv : nv ≤ 512) {ops : Array Oper} {kp : AV → K Prop} {k : KS Prop} {Q : Exit → Act → List Frame → World → Prop} {c0 : Frame} {cs0 : List Frame} :
  ∀ (os : List Oper) (i : Nat), ops.toList.drop i = os → (∀ o ∈ os, dstOK nt o = true) → ∀ (st : AV) (u : FrameMode) (t : Tm) (l : Loc) (h : Heap) (a : Act) (w : World) (φ : Phi), St G nt nv t l h a w φ → MRep (V w φ G h) st u → runR' P False call nv ops kp k os st t l h →
   (∀ st' u' t' l' h' a' w' φ', St G nt nv t' l' h' a' w' φ' → Far G h w φ h' w' φ' → MRep (V w' φ' G h') st' u' → k st' t' l' h' → Q .normal a' ({ c0 with mode := u' } :: cs0) w') →
   (∀ u' x c t' l' h' a' w' φ', St G nt nv t' l' h' a' w' φ' → Far G h w φ h' w' φ' → Stays u' → kp x t' l' h' → Chain (V w' φ' G h' x) c → Q (.panic c) a' ({ c0 with mode := u' } :: cs0) w') →
    wpOpsS P ops Q (List.range' i os.length) a ({ c0 with mode := u } :: cs0) w
 | [], i, _, _, st, u, t, l, h, a, w, φ, s, m, hk, hQ, _ => by
  show Q .normal a _ w
  exact hQ _ _ _ _ _ _ _ _ s (Far.refl s.rel) m hk
 | o :: os, i, hos, hd, st, u, t, l, h, a, w, φ, s, m, hk, hQ, hP => by
  have hk' : stepR P False call nv ops o kp (runR' P False call nv ops kp k os) st t l h := hk
  have hget : ops[i]? = some o := by
   have : (ops.toList.drop i)[0]? = some o := by rw [hos]; rfl
   rw [List.getElem?_drop, Nat.add_zero] at this
   simpa using this
  have hrest : ops.toList.drop (i + 1) = os := by
   have : (ops.toList.drop i).drop 1 = os := by rw [hos]; rfl
   rwa [List.drop_drop] at this
  have hid : φ h.next = none := by
   cases hq : φ h.next with
   | none => rfl
   | some y => exact absurd (s.rel.lt _ (by rw [hq]; simp)) (by omega)
  have near : ∀ {h' w' φ'}, FarI (· = h.next) G h w φ h' w' φ' → Far G h w φ h' w' φ' := fun f => f.mono fun b hb e => absurd e (Nat.ne_of_lt hb)
  have hdst := hd o (List.mem_cons_self ..)
  have hd' := fun o' ho' => hd o' (List.mem_cons_of_mem o ho')
  have go : ∀ {st' u' t' l' h' a' w' φ'}, St G nt nv t' l' h' a' w' φ' → Far G h w φ h' w' φ' → MRep (V w' φ' G h') st' u' → runR' P False call nv ops kp k os st' t' l' h' → wpOpsS P ops Q (List.range' (i + 1) os.length) a' ({ c0 with mode := u' } :: cs0) w' := fun s' f' m' hk2 =>
   runR'_v hc hnv os (i + 1) hrest hd' _ _ _ _ _ _ _ _ s' m' hk2 (fun st2 u2 t2 l2 h2 a2 w2 φ2 s2 f2 m2 hk3 => hQ _ _ _ _ _ _ _ _ s2 (f'.trans f2) m2 hk3) (fun u2 x c t2 l2 h2 a2 w2 φ2 s2 f2 m2 hk3 hch => hP _ x c _ _ _ _ _ _ s2 (f'.trans f2) m2 hk3 hch)
  have hmV : ∀ {h' w' φ'}, Far G h w φ h' w' φ' → MRep (V w' φ' G h') st u := fun f => m.imp fun x v hv => f.v hv
  rw [List.length_cons, List.range'_succ]
  show (match ops[i]? with | none => _ | some o => if Region.wanted o (yielded ops a.tmps) then (match (execOp a.eval o).run P w with | .ok .recover w' => (match recoverD _ with | some (v, cs') => wpOpsS P ops Q (List.range' (i + 1) os.length) (a.put o.dst v) cs' w' | none => wpOpsS P ops Q (List.range' (i + 1) os.length) (a.put o.dst .nilIface) _ w') | r => o.upon P a (fun a' w' => wpOpsS P ops Q (List.range' (i + 1) os.length) a' _ w') (fun e a' w' => Q e a' _ w') r) else wpOpsS P ops Q (List.range' (i + 1) os.length) (a.put o.dst undef) _ w)
  rw [hget]
  dsimp only
  unfold stepR at hk'
  cases h4 : Nat.beq (kindP o.op) 4 with
  | true =>
   rw [h4] at hk'
   have hk' : wantedK False ops nv t l o (recA False st fun v st' => putK nv (runR' P False call nv ops kp k os st') o.dst v t l h) (putK nv (runR' P False call nv ops kp k os st) o.dst (.tup []) t l h) := hk'
   rcases guard_v s hk' with ⟨hw, hk'⟩ | ⟨hw, hk'⟩
   ·rw [if_pos hw, run_recover (beq_iff.1 h4)]
    dsimp only
    obtain ⟨av, v, st', u', hk2, hv, hm, hrec⟩ := recA_v (c0 := c0) (cs := cs0) m (fun {q} => by unfold V; rw [VRep]) hk'
    obtain ⟨t', l', hk3, s'⟩ := s.putK hnv hdst hv hk2
    rcases hrec with hrec | ⟨hrec, rfl, rfl⟩
    ·rw [hrec]
     exact go s' (Far.refl s.rel) hm hk3
    ·rw [hrec]
     exact go s' (Far.refl s.rel) hm hk3
   ·rw [if_neg (by rw [hw]; simp)]
    obtain ⟨t', l', hk2, s'⟩ := s.putK hnv hdst (v := undef) (by unfold V; rw [VRep]; exact ⟨#[], rfl, by rw [VReps]⟩) hk'
    exact go s' (Far.refl s.rel) m hk2
  | false =>
   rw [h4] at hk'
   have hk' : opStepK P False call nv ops o kp (runR' P False call nv ops kp k os st) t l h h.next := hk'
   have key := opStepK_v (Q := fun e a' w' => Q e a' ({ c0 with mode := u } :: cs0) w') (K := fun a' w' => wpOpsS P ops Q (List.range' (i + 1) os.length) a' ({ c0 with mode := u } :: cs0) w') hc hnv hdst s hid (Nat.le_refl _) hk'
    (fun t' l' h' a' w' φ' s' hf' hk2 => go s' (near hf') (hmV (near hf')) hk2) (fun x c t' l' h' a' w' φ' s' hf' hk2 hch => hP u x c _ _ _ _ _ _ s' (near hf') m.stays hk2 hch)
   by_cases hw : Region.wanted o (yielded ops a.tmps) = true
   ·rw [if_pos hw] at key ⊢
    unfold Oper.wp at key
    generalize (execOp a.eval o).run P w = r at key
    cases r with
    | ok nx w' => cases nx <;> first | exact key | exact key.elim
    | halt hh w' => exact key
   ·rw [if_neg hw] at key ⊢; exact key
theorem head_wpS {c : Code} {ops : Array Oper} {rest : Code} (hh : headOf c = some (ops, rest)) {Q : Exit → Act → List Frame → World → Prop} {a : Act} {cs : List Frame} {w : World}
  (h : wpOpsS P ops (Exit.thenS (fun a cs w => rest.wp P (fun e a' w' => Q e a' cs w') a w) Q) (List.range ops.size) a cs w) : c.wpS P Q a cs w := by
 cases c <;> first | (cases hh; done) | skip
 ·rename_i x y
  cases x <;> first | (cases hh; done) | skip
  rename_i id ops' d
  cases d <;> first | (cases hh; done) | skip
  have hh : some (ops', y) = some (ops, rest) := hh
  injection hh with hh
  injection hh with h1 h2
  subst h1 h2
  refine wpS_seq (fun b k hb hr => ?_)
  obtain ⟨e, a1, cs1, w1, hq, harr⟩ := wpS_region (id := id) h b k hb hr
  cases e with
  | normal => exact ⟨.normal, a1, cs1, w1, wpS_of_wp hq, harr⟩
  | exit i => exact ⟨.exit i, a1, cs1, w1, hq, harr⟩
  | goto i => exact ⟨.goto i, a1, cs1, w1, hq, harr⟩
  | ret => exact ⟨.ret, a1, cs1, w1, hq, harr⟩
  | panic ch => exact ⟨.panic ch, a1, cs1, w1, hq, harr⟩
  | outgrown => exact ⟨.outgrown, a1, cs1, w1, hq, harr⟩
theorem defOne_v [Env] {cfg : Cfg} (ok : CfgOK P cfg) {call : Call' Prop} (hc : SoundCall P call) (hD : Drawn P call) {n : Nat} {e st : AV} {d : Deferred} {u : FrameMode} {k : AV → Heap → Prop} (hr : HRel G h w φ)
  (hd : DRep w φ (BadOf G h φ) e d) (m : MRep (V w φ G h) st u) (hk : defOne P False call (fun nv => runC P False call nv n) cfg.nv e st h k) :
  ∃ f cap args, d.target = .fn (.func f) cap ∧ (invoke d.target d.args).run P w = .ok (.enter f args) w ∧ CallsD P f args u w fun e u' w' => ∃ st' h' φ', k st' h' ∧ Far G h w φ h' w' φ' ∧
   ((∃ v, e = .returned v ∧ SRep (V w' φ' G h') st' (settle u')) ∨ ∃ c, e = .panicked c ∧ SRep (V w' φ' G h') st' (raised u' c)) := by
 obtain ⟨f, fa, fc, fargs, xs, ys, zs, rfl, rfl, h1, h2, h3⟩ := hd
 have hk1 : on False (bodyOf P f) fun q => defB P False call (runC P False call (cfg.nv f) n) (cfg.nv f) q (lapp fa (lapp fargs fc)) st h k := hk
 obtain ⟨q, hq, hk2⟩ := on_prop hk1
 obtain ⟨fn, hf, hb, hrs, hnt⟩ := bodyOf_some hq
 have hcode := ok.code f q hq
 have hres := ok.res f q hq
 rw [hrs] at hres
 unfold defB at hk2
 obtain ⟨hl, hk3⟩ := bi_prop hk2
 have hl := ble_iff.1 hl
 rw [llen_eq] at hl
 obtain ⟨⟨ops, rest⟩, hh, hk4⟩ := on_prop hk3
 have hargs : VReps w φ (BadOf G h φ) (lapp fa (lapp fargs fc)) (xs ++ zs ++ ys).toList := by
  simp only [Array.toList_append, List.append_assoc]
  exact h1.lapp (h3.lapp h2)
 refine ⟨f, ys, xs ++ zs ++ ys, rfl, ?_, ?_⟩
 ·exact run_callFunc ⟨⟨fn, q.code, hf, hb, ok.name f fn hf⟩⟩ _ _
 have hcodes : dstsOK q.nt ops.toList = true ∧ codeOK q.nt rest = true := by
  cases hcq : q.code <;> rw [hcq] at hh hcode <;> first | (cases hh; done) | skip
  rename_i x y
  cases x <;> first | (cases hh; done) | skip
  rename_i id ops' dd
  cases dd <;> first | (cases hh; done) | skip
  have hh : some (ops', y) = some (ops, rest) := hh
  injection hh with hh
  injection hh with e1 e2
  subst e1 e2
  have : (dstsOK q.nt ops'.toList && codeOK q.nt y) = true := hcode
  rw [Bool.and_eq_true] at this
  exact this
 have hdst := hcodes.1
 unfold dstsOK at hdst
 rw [lall_eq, List.all_eq_true] at hdst
 refine callsD_of_wpS hf hb fun c₀ cs hu => ?_
 have hc0 : c₀ = { c₀ with mode := u } := by cases c₀; subst hu; rfl
 refine head_wpS hh ?_
 have hnil : ∀ {t' l' h' a' w' φ'} {x : Prop}, St G q.nt (cfg.nv f) t' l' h' a' w' φ' → none511 False (cfg.nv f) t' x → a'.defers = [] ∧ x := by
  intro t' l' h' a' w' φ' x s' h0
  have hdef := s'.defers
  unfold none511 at h0
  by_cases e : cfg.nv f = 512
  ·rw [if_pos e] at hdef
   rw [beq_iff.2 e] at h0
   exact ⟨hdef, h0⟩
  ·rw [if_neg e] at hdef
   have hb : Nat.beq (cfg.nv f) 512 = false := by cases hb : Nat.beq (cfg.nv f) 512; rfl; exact absurd (beq_iff.1 hb) e
   rw [hb] at h0
   rcases hdef with ⟨e1, e2⟩ | ⟨es, e1, _⟩
   ·rw [e1] at h0; exact ⟨e2, h0⟩
   ·rw [e1] at h0; exact h0.elim
 have fin : ∀ {st' u' t' l' h' a' w' φ'}, St G q.nt (cfg.nv f) t' l' h' a' w' φ' → Far G h w φ h' w' φ' → MRep (V w' φ' G h') st' u' → dEnd P False (cfg.nv f) q.rs k st' t' l' h' →
   a'.defers = [] ∧ ∃ u₂, ({ c₀ with mode := u' } : Frame) :: cs = { c₀ with mode := u₂ } :: cs ∧ ∃ v, (results fn a'.tmps).run P w' = .ok v w' ∧ ∃ st' h' φ', k st' h' ∧ Far G h w φ h' w' φ' ∧
    ((∃ v', Ending.returned v = .returned v' ∧ SRep (V w' φ' G h') st' (settle u₂)) ∨ ∃ c, Ending.returned v = .panicked c ∧ SRep (V w' φ' G h') st' (raised u₂ c)) := by
  intro st' u' t' l' h' a' w' φ' s' f' m' hk5
  obtain ⟨h0, hk5⟩ := hnil s' hk5
  obtain ⟨av, h6, h7⟩ := on_prop hk5
  rw [hrs] at h6
  obtain ⟨v, h8, _⟩ := results_v s' hres h6
  exact ⟨h0, u', rfl, v, h8, st', h', φ', h7, f', .inl ⟨v, rfl, settle_rep m'⟩⟩
 have die : ∀ {u' x c t' l' h' a' w' φ'}, St G q.nt (cfg.nv f) t' l' h' a' w' φ' → Far G h w φ h' w' φ' → Stays u' → dDie False (cfg.nv f) k x t' l' h' → Chain (V w' φ' G h' x) c →
   a'.defers = [] ∧ ∃ u₂, ({ c₀ with mode := u' } : Frame) :: cs = { c₀ with mode := u₂ } :: cs ∧ ∃ st' h' φ', k st' h' ∧ Far G h w φ h' w' φ' ∧
    ((∃ v', Ending.panicked c = .returned v' ∧ SRep (V w' φ' G h') st' (settle u₂)) ∨ ∃ c', Ending.panicked c = .panicked c' ∧ SRep (V w' φ' G h') st' (raised u₂ c')) := by
  intro u' x c t' l' h' a' w' φ' s' f' hs hk5 hch
  obtain ⟨h0, hk5⟩ := hnil s' hk5
  exact ⟨h0, u', rfl, _, h', φ', hk5, f', .inr ⟨c, rfl, raised_rep hs hch⟩⟩
 have hs0 : St G q.nt (cfg.nv f) (Tm.ofList (lapp fa (lapp fargs fc)) 0 Tm.nil) [] h { tmps := (xs ++ zs ++ ys) ++ Array.replicate (q.nt - (xs ++ zs ++ ys).size) undef, defers := [] } w φ := st_enter hr hargs hl (ok.nv f) q.nt
 have := runR'_v (P := P) (ops := ops) (c0 := c₀) (cs0 := cs) hc (ok.nv f) (k := fun st => runC P False call (cfg.nv f) n rest (dendK P False (cfg.nv f) q.rs k st)) (kp := dDie False (cfg.nv f) k)
  (Q := Exit.thenS (fun a1 cs1 w1 => rest.wp P (fun e a' w' => bodyPostS P fn c₀ cs (fun e u' w' => ∃ st' h' φ', k st' h' ∧ Far G h w φ h' w' φ' ∧ ((∃ v, e = .returned v ∧ SRep (V w' φ' G h') st' (settle u')) ∨ ∃ c, e = .panicked c ∧ SRep (V w' φ' G h') st' (raised u' c))) e a' cs1 w') a1 w1)
   (bodyPostS P fn c₀ cs fun e u' w' => ∃ st' h' φ', k st' h' ∧ Far G h w φ h' w' φ' ∧ ((∃ v, e = .returned v ∧ SRep (V w' φ' G h') st' (settle u')) ∨ ∃ c, e = .panicked c ∧ SRep (V w' φ' G h') st' (raised u' c)))) ops.toList 0 (by rw [List.drop_zero]) hdst st u _ _ _ _ _ _ hs0 m hk4 ?_ ?_
 ·rw [Array.length_toList, ← List.range_eq_range', hnt, ← hc0] at this
  exact this
 ·intro st' u' t' l' h' a' w' φ' s' f' m' hk5
  refine code_v hc hD (ok.nv f) n rest hcodes.2 (dendK P False (cfg.nv f) q.rs k st') t' l' h' a' w' φ' _ s' hk5 fun e x t2 l2 h2 a2 w2 φ2 s2 f2 hk6 hx => ?_
  cases e with
  | nx => have hx : x = .normal := hx; subst hx; exact fin s2 (f'.trans f2) (m'.imp fun _ _ hv => f2.v hv) hk6
  | ex i => exact hk6.elim
  | rt => have hx : x = .ret := hx; subst hx; exact fin s2 (f'.trans f2) (m'.imp fun _ _ hv => f2.v hv) hk6
  | pn v => obtain ⟨c, rfl, hch⟩ := hx; exact die s2 (f'.trans f2) m'.stays hk6 hch
 ·intro u' x c t' l' h' a' w' φ' s' f' hs hk5 hch
  exact die s' f' hs hk5 hch
theorem leaveL_v [Env] {cfg : Cfg} (ok : CfgOK P cfg) {call : Call' Prop} (hc : SoundCall P call) (hD : Drawn P call) {n : Nat} {fn : Func} {kr : AV → Heap → Prop} {R : Ending → World → Prop} (hres : lall (resOK nv) fn.results.toList = true) :
  ∀ (es : List AV) (ds : List Deferred) (st : AV) (u : FrameMode) (h : Heap) (w : World) (φ : Phi), St G nt nv t l h a w φ → DList w φ (BadOf G h φ) es ds → SRep (V w φ G h) st u →
   leaveL P False call (fun nv => runC P False call nv n) cfg.nv (doneK P False fn.results.toList kr t) es st h →
   (∀ av e h' w' φ', St G nt nv t l h' a w' φ' → Far G h w φ h' w' φ' → kr av h' → Out w' φ' G h' av e → R e w') → Leaves P fn a.tmps R ds u w
 | [], ds, st, u, h, w, φ, s, hd, m, hk, hfin => by
  have hd : ds = [] := hd
  subst hd
  have hk : doneK P False fn.results.toList kr t st h := hk
  rcases m with ⟨rfl, rfl⟩ | ⟨x, c, rfl, rfl, hch⟩
  ·obtain ⟨av, h1, h2⟩ := on_prop (o := resultsA P t h fn.results.toList) hk
   obtain ⟨v, h3, h4⟩ := results_v s hres h1
   exact ⟨v, h3, hfin av _ h w φ s (Far.refl s.rel) h2 (.inl ⟨v, rfl, h4⟩)⟩
  ·exact hfin (.pn x) _ h w φ s (Far.refl s.rel) hk (.inr ⟨x, c, rfl, rfl, hch⟩)
 | e :: es, ds, st, u, h, w, φ, s, hd, m, hk, hfin => by
  obtain ⟨d, r, rfl, h1, h2⟩ := hd
  have hk : defOne P False call (fun nv => runC P False call nv n) cfg.nv e st h (leaveL P False call (fun nv => runC P False call nv n) cfg.nv (doneK P False fn.results.toList kr t) es) := hk
  obtain ⟨f, cap, args, h3, h4, h5⟩ := defOne_v ok hc hD s.rel h1 m.m hk
  refine ⟨m.m.ne, .func f, cap, f, args, h3, h4, h5.mono fun e' u' w' ⟨st', h', φ', hk', far, hor⟩ => ?_⟩
  have s' := s.far far
  have hl := fun {u₂ : FrameMode} (m' : SRep (V w' φ' G h') st' u₂) => leaveL_v ok hc hD hres es r st' u₂ h' w' φ' s' (h2.mono far.goes far.le) m' hk' fun av e h2 w2 φ2 s2 f2 hkr ho => hfin av e h2 w2 φ2 s2 (far.trans f2) hkr ho
  rcases hor with ⟨v, rfl, m'⟩ | ⟨c, rfl, m'⟩
  ·exact hl m'
  ·exact hl m'
theorem leaveK_v [Env] {cfg : Cfg} (ok : CfgOK P cfg) {call : Call' Prop} (hc : SoundCall P call) (hD : Drawn P call) {n : Nat} {fn : Func} {kr : AV → Heap → Prop} {R : Ending → World → Prop} (hres : lall (resOK nv) fn.results.toList = true) {st : AV} {u : FrameMode}
  (s : St G nt nv t l h a w φ) (m : SRep (V w φ G h) st u) (hk : leaveK P False call (fun nv => runC P False call nv n) cfg.nv nv fn.results.toList kr st t l h)
  (hfin : ∀ av e h' w' φ', St G nt nv t l h' a w' φ' → Far G h w φ h' w' φ' → kr av h' → Out w' φ' G h' av e → R e w') : Leaves P fn a.tmps R a.defers u w := by
 unfold leaveK at hk
 have hdef := s.defers
 by_cases e : nv = 512
 ·rw [if_pos e] at hdef
  rw [beq_iff.2 e] at hk
  rw [hdef]
  exact leaveL_v (n := n) ok hc hD hres [] [] st u h w φ s rfl m hk hfin
 rw [if_neg e] at hdef
 have hb : Nat.beq nv 512 = false := by cases hb : Nat.beq nv 512; rfl; exact absurd (beq_iff.1 hb) e
 rw [hb] at hk
 rcases hdef with ⟨h1, h2⟩ | ⟨es, h1, h2⟩
 ·rw [h1] at hk
  rw [h2]
  exact leaveL_v (n := n) ok hc hD hres [] [] st u h w φ s rfl m hk hfin
 ·rw [h1] at hk
  exact leaveL_v ok hc hD hres es a.defers st u h w φ s h2 m hk hfin
theorem callF_v [Env] {cfg : Cfg} (ok : CfgOK P cfg) (hD : ∀ n, SoundCall P (callF P False cfg n) → Drawn P (callF P False cfg n)) : ∀ n, SoundCall P (callF P False cfg n)
 | 0 => fun G h w φ f args vs k hr hv hk => hk.elim
 | n + 1 => by
  have ih := callF_v ok hD n
  have ihD := hD n ih
  intro G h w φ f args vs k hr hv hk
  have hk0 : Option.rec (motive := fun _ => Prop) (on (ovX False cfg f args h k) (bodyOf P f) fun q => callB P False cfg (callF P False cfg n) (fun nv => runC P False (callF P False cfg n) nv n) f q args h k) (fun v => k v h) (memoOf cfg f args) := hk
  cases hmemo : memoOf cfg f args with
  | some av =>
   rw [hmemo] at hk0
   obtain ⟨h1, h2⟩ := ok.memo f args av hmemo G h w φ vs hr hv
   exact .inl ⟨h1, h2.mono fun e w' ⟨v, φ', e1, e2, e3⟩ => ⟨av, h, φ', hk0, .inl ⟨v, e1, e2⟩, e3⟩⟩
  | none =>
  rw [hmemo] at hk0
  have hk1 : on (ovX False cfg f args h k) (bodyOf P f) fun q => callB P False cfg (callF P False cfg n) (fun nv => runC P False (callF P False cfg n) nv n) f q args h k := hk0
  cases hq : bodyOf P f with
  | none =>
   rw [hq] at hk1
   obtain ⟨h1, h2⟩ := bi_prop (c := cfg.ov f) hk1
   obtain ⟨h3, h4⟩ := ov_v (ok.ov f h1) hr hv h2
   exact .inr ⟨_, h4, .b false, h, φ, h3, .inl ⟨_, rfl, by unfold V; rw [VRep]⟩, Far.refl hr⟩
  | some q =>
  rw [hq] at hk1
  have hk2 : callB P False cfg (callF P False cfg n) (fun nv => runC P False (callF P False cfg n) nv n) f q args h k := hk1
  obtain ⟨fn, hf, hb, hrs, hnt⟩ := bodyOf_some hq
  have hcode := ok.code f q hq
  have hres := ok.res f q hq
  rw [hrs] at hres
  refine .inl ⟨⟨fn, q.code, hf, hb, ok.name f fn hf⟩, ?_⟩
  unfold callB at hk2
  obtain ⟨hl, hk3⟩ := bi_prop hk2
  have hl := ble_iff.1 hl
  rw [llen_eq] at hl
  have body : ∀ (G1 : Bad) (h1 : Heap) (φ1 : Phi) (kr : AV → Heap → Prop) (R : Ending → World → Prop), HRel G1 h1 w φ1 → VReps w φ1 (BadOf G1 h1 φ1) args vs.toList →
    runC P False (callF P False cfg n) (cfg.nv f) n q.code (endK P False (callF P False cfg n) (fun nv => runC P False (callF P False cfg n) nv n) cfg.nv (cfg.nv f) q.rs kr) (Tm.ofList args 0 Tm.nil) [] h1 →
    (∀ av e h' w' φ', HRel G1 h' w' φ' → Far G1 h1 w φ1 h' w' φ' → kr av h' → Out w' φ' G1 h' av e → R e w') → Calls P f vs w R := by
   intro G1 h1 φ1 kr R hr1 hv1 hk4 hfin
   refine calls_of_wp_defers hf hb ?_
   rw [← hnt]
   refine code_v ih ihD (ok.nv f) n q.code hcode _ _ _ _ _ _ _ _ (st_enter hr1 hv1 hl (ok.nv f) q.nt) hk4 fun e x t' l' h' a' w' φ' s' f' hk5 hx => ?_
   have fin : ∀ {st : AV} {u : FrameMode}, SRep (V w' φ' G1 h') st u → leaveK P False (callF P False cfg n) (fun nv => runC P False (callF P False cfg n) nv n) cfg.nv (cfg.nv f) fn.results.toList kr st t' l' h' → Leaves P fn a'.tmps R a'.defers u w' := fun m hk6 =>
    leaveK_v ok ih ihD hres s' m hk6 fun av e h2 w2 φ2 s2 f2 hkr ho => hfin av e h2 w2 φ2 s2.rel (f'.trans f2) hkr ho
   rw [hrs] at hk5
   cases e with
   | nx => have hx : x = .normal := hx; subst hx; exact fin (.inl ⟨rfl, rfl⟩) hk5
   | ex i => exact hk5.elim
   | rt => have hx : x = .ret := hx; subst hx; exact fin (.inl ⟨rfl, rfl⟩) hk5
   | pn v => obtain ⟨c, rfl, hch⟩ := hx; exact fin (.inr ⟨v, c, rfl, rfl, hch⟩) hk5
  cases ho : own cfg f args with
  | false =>
   rw [ho] at hk3
   exact body G h φ k _ hr hv hk3 fun av e h' w' φ' _ far hk out => ⟨av, h', φ', hk, out, far⟩
  | true =>
   rw [ho] at hk3
   have hrefs : lany (refs 10) args = false := by
    unfold own at ho
    rw [Bool.and_eq_true] at ho
    simpa using ho.2
   have hr0 : HRel (BadOf G h φ) Heap.empty w (fun _ => none) := by
    refine ⟨fun b cb sz n h1 h2 => (by cases h2), fun b h1 => absurd (Heap.raw_empty b) h1, fun b h1 => absurd rfl h1, fun k hk => ?_, fun b b' cb sz n sz' n' h1 h2 h3 h4 => (by cases h3), fun k hk => ⟨.inl (hr.pin k hk).1, (hr.pin k hk).2⟩⟩
    rcases hk with hk | hk
    ·exact hr.gOld k hk
    ·exact Own.lt hr hk
   have hno : ∀ k, ¬ Own Heap.empty (fun _ => none) k := by rintro k ⟨b, sz, n, h1, h2⟩; cases h2
   have hbad : BadOf (BadOf G h φ) Heap.empty (fun _ => none) = BadOf G h φ := by
    funext k
    exact propext ⟨fun e => e.resolve_right (hno k), .inl⟩
   have hv0 : VReps w (fun _ => none) (BadOf (BadOf G h φ) Heap.empty (fun _ => none)) args vs.toList := by
    rw [hbad]
    exact FReps.toV _ _ _ (refs_list (fun x v => refs_F 10 x v) hrefs hv)
   refine body (BadOf G h φ) Heap.empty (fun _ => none) (ownR False h k) _ hr0 hv0 hk3 fun av e h' w' φ' rel far hk out => ?_
   obtain ⟨fv, h2, hk7⟩ := on_prop hk
   refine ⟨fv, h, φ, hk7, ?_, ext_own far.ext hno hr⟩
   rcases out with ⟨v, rfl, h4⟩ | ⟨x, c, rfl, rfl, hch⟩
   ·exact .inl ⟨v, rfl, FRep.toV _ _ _ (frz_F rel 200 av fv v h2 h4)⟩
   ·obtain ⟨z, rfl, hz⟩ := chain_frz rel h2 hch
    exact .inr ⟨z, c, rfl, rfl, hz.imp fun v hv => FRep.toV _ _ _ hv⟩
end
end Go.Zev
