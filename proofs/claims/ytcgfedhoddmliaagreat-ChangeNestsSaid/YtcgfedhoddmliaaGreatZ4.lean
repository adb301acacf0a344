/-
  General proofs: what is known of a heap, and what each word of a clean form asks of what comes behind it.
-/
import Derived.ChangeSame
import Derived.Carry
import Derived.Test.YtcgfedhoddmliaaGreatZ3

set_option linter.unusedVariables false
namespace Go.Zev
open Go
theorem mem0 {α : Type} {x : α} {r : List α} : x ∈ x :: r := List.mem_cons_self ..
theorem memS {α : Type} {x a : α} {r : List α} (h : x ∈ r) : x ∈ a :: r := List.mem_cons_of_mem _ h
theorem mem1 {α : Type} {x a : α} {r : List α} : x ∈ a :: x :: r := List.mem_cons_of_mem _ mem0
theorem mem2 {α : Type} {x a b : α} {r : List α} : x ∈ a :: b :: x :: r := List.mem_cons_of_mem _ mem1
theorem mem3 {α : Type} {x a b c : α} {r : List α} : x ∈ a :: b :: c :: x :: r := List.mem_cons_of_mem _ mem2
theorem mem4 {α : Type} {x a b c d : α} {r : List α} : x ∈ a :: b :: c :: d :: x :: r := List.mem_cons_of_mem _ mem3
theorem mem5 {α : Type} {x a b c d e : α} {r : List α} : x ∈ a :: b :: c :: d :: e :: x :: r := List.mem_cons_of_mem _ mem4
theorem mem6 {α : Type} {x a b c d e f : α} {r : List α} : x ∈ a :: b :: c :: d :: e :: f :: x :: r := List.mem_cons_of_mem _ mem5
theorem mem7 {α : Type} {x a b c d e f g : α} {r : List α} : x ∈ a :: b :: c :: d :: e :: f :: g :: x :: r := List.mem_cons_of_mem _ mem6
/-- What is known of a heap: the next number, from where on it is not seen, some blocks. -/
structure HS (h : Heap) (nx lm : Nat) (l : List (Nat × Blk)) : Prop where
  next : h.next = nx
  lim : h.lim = lm
  has : ∀ p ∈ l, p.1 < nx ∧ p.1 < lm ∧ p.1 < cap ∧ h.raw p.1 = p.2
theorem HS.empty : HS Heap.empty 0 far [] := ⟨rfl, rfl, fun p hp => by cases hp⟩
section
variable {h h' : Heap} {nx lim : Nat} {l : List (Nat × Blk)} {b : Nat} {x y : Blk}
theorem far_big {k : Nat} (h : k < cap) : k < far := by unfold cap at h; unfold far; omega
theorem HS.sub (hs : HS h nx lim l) {l' : List (Nat × Blk)} (hl : ∀ p ∈ l', p ∈ l) : HS h nx lim l' := ⟨hs.next, hs.lim, fun p hp => hs.has p (hl p hp)⟩
theorem HS.nil (hs : HS h nx lim l) : HS h nx lim [] := hs.sub fun _ hp => by cases hp
theorem HS.get (hs : HS h nx lim l) (hb : (b, x) ∈ l) : hgetF h b = x := by
  obtain ⟨h1, h2, h3, h4⟩ := hs.has _ hb
  rw [hgetF_eq]
  unfold Heap.get Heap.see
  have : Nat.blt b h.lim = true := blt_iff.2 (by rw [hs.lim]; exact h2)
  rw [this]
  exact h4
theorem HS.look (hs : HS h nx lim l) (m : Nat) : HS (h.look m) nx lim l :=
  ⟨by rw [Heap.next_look]; exact hs.next, by rw [Heap.lim_look]; exact hs.lim, fun p hp => by
    obtain ⟨h1, h2, h3, h4⟩ := hs.has p hp
    exact ⟨h1, h2, h3, by rw [Heap.raw_look]; exact h4⟩⟩
theorem lim_shut (h : Heap) : h.shut.lim = far := by cases h; rfl
theorem HS.shut (hs : HS h nx lim l) : HS h.shut nx far l :=
  ⟨by rw [Heap.next_shut]; exact hs.next, lim_shut h, fun p hp => by
    obtain ⟨h1, h2, h3, h4⟩ := hs.has p hp
    exact ⟨h1, far_big h3, h3, by rw [Heap.raw_shut]; exact h4⟩⟩
theorem HS.new (hs : HS h nx lim l) (hc : nx < cap) (hl : nx < lim) (x : Blk) : HS (hnewF h nx x) (nx + 1) lim ((nx, x) :: l) := by
  rw [hnewF_eq]
  refine ⟨by rw [Heap.next_new, hs.next, if_pos rfl], by rw [(Heap.win_new h nx x).1]; exact hs.lim, fun p hp => ?_⟩
  rcases List.mem_cons.1 hp with rfl | hp
  · exact ⟨by show nx < nx + 1; omega, hl, hc, by rw [Heap.raw_new, if_pos ⟨rfl, hc⟩]⟩
  · obtain ⟨h1, h2, h3, h4⟩ := hs.has p hp
    exact ⟨by omega, h2, h3, by rw [Heap.raw_new, if_neg (fun e => by omega)]; exact h4⟩
theorem HS.new' (hs : HS h nx far l) (hc : nx < cap) (x : Blk) : HS (hnewF h nx x) (nx + 1) far ((nx, x) :: l) := hs.new hc (far_big hc) x
theorem HS.set (hs : HS h nx lim l) (hb : (b, x) ∈ l) (y : Blk) (l' : List (Nat × Blk)) (hl : ∀ p ∈ l', p ∈ l ∧ p.1 ≠ b) : HS (hsetF h b y) nx lim ((b, y) :: l') := by
  rw [hsetF_eq]
  obtain ⟨g1, g2, g3, g4⟩ := hs.has _ hb
  refine ⟨by rw [Heap.next_set]; exact hs.next, by rw [(Heap.win_set h b y).1]; exact hs.lim, fun p hp => ?_⟩
  rcases List.mem_cons.1 hp with rfl | hp
  · exact ⟨g1, g2, g3, by rw [Heap.raw_set, if_pos ⟨rfl, g3⟩]⟩
  · obtain ⟨h5, h6⟩ := hl p hp
    obtain ⟨h1, h2, h3, h4⟩ := hs.has p h5
    exact ⟨h1, h2, h3, by rw [Heap.raw_set, if_neg (fun e => h6 e.1)]; exact h4⟩
theorem HS.open (hs : HS h nx far l) (n : Nat) : HS (h.open n) (nx + n) nx l := by
  refine ⟨by rw [Heap.next_open, hs.next], ?_, fun p hp => ?_⟩
  · have : (h.open n).lim = h.next := by cases h; rfl
    rw [this, hs.next]
  · obtain ⟨h1, h2, h3, h4⟩ := hs.has p hp
    exact ⟨by omega, h1, h3, by rw [Heap.raw_open]; exact h4⟩
theorem hide_next (ids : List Nat) (h : Heap) : (hide ids h).next = h.next := by
  unfold hide
  cases lany (Nat.beq far) ids with
  | true => cases h; rfl
  | false =>
    show (hide0 ids h).next = _
    induction ids generalizing h with
    | nil => rfl
    | cons b r ih =>
      show (hide0 r (h.set b .none)).next = _
      rw [ih, Heap.next_set]
theorem back0_raw (h0 : Heap) : ∀ (ids : List Nat) (h : Heap) (k : Nat), (back0 h0 ids h).raw k = if k ∈ ids then h0.raw k else h.raw k
  | [], h, k => by rw [if_neg (by simp)]; rfl
  | b :: r, h, k => by
    show (back0 h0 r (h.set b (h0.raw b))).raw k = _
    rw [back0_raw h0 r, Heap.raw_set]
    by_cases h1 : k ∈ r
    · rw [if_pos h1, if_pos (List.mem_cons_of_mem _ h1)]
    · rw [if_neg h1]
      by_cases h2 : k = b
      · subst h2
        rw [if_pos (List.mem_cons_self ..)]
        by_cases h3 : k < cap
        · rw [if_pos ⟨rfl, h3⟩]
        · rw [if_neg (fun e => h3 e.2), Heap.raw_ge h3, Heap.raw_ge h3]
      · rw [if_neg (fun e => h2 e.1), if_neg (fun e => (List.mem_cons.1 e).elim h2 h1)]
theorem hide0_raw : ∀ (ids : List Nat) (h : Heap) (k : Nat), k ∉ ids → (hide0 ids h).raw k = h.raw k
  | [], h, k, _ => rfl
  | b :: r, h, k, hk => by
    show (hide0 r (h.set b .none)).raw k = _
    rw [hide0_raw r _ k (fun e => hk (List.mem_cons_of_mem _ e)), Heap.raw_set, if_neg (fun e : k = b ∧ b < cap => hk (by rw [e.1]; exact List.mem_cons_self ..))]
theorem back0_next (h0 : Heap) : ∀ (ids : List Nat) (h : Heap), (back0 h0 ids h).next = h.next
  | [], _ => rfl
  | b :: r, h => by
    show (back0 h0 r (h.set b (h0.raw b))).next = _
    rw [back0_next h0 r, Heap.next_set]
theorem back_hide_raw (ids : List Nat) (h g : Heap) (hg : ∀ k, g.raw k = h.raw k) (k : Nat) : (back h ids (hide ids g)).raw k = h.raw k := by
  unfold back hide
  cases lany (Nat.beq far) ids with
  | true => cases h; cases g; rfl
  | false =>
    show (back0 h ids (hide0 ids g)).raw k = _
    rw [back0_raw]
    by_cases h1 : k ∈ ids
    · rw [if_pos h1]
    · rw [if_neg h1, hide0_raw ids g k h1, hg]
theorem back_hide_next (ids : List Nat) (h g : Heap) : (back h ids (hide ids g)).next = g.next := by
  have e := hide_next ids g
  unfold back
  unfold hide at e ⊢
  cases hb : lany (Nat.beq far) ids with
  | true => cases h; cases g; rfl
  | false =>
    rw [hb] at e
    show (back0 h ids (hide0 ids g)).next = _
    rw [back0_next]
    exact e
/-- What was hidden is there again. -/
theorem HS.back (hs : HS h nx lim l) (ids : List Nat) : HS ((back h ids (hide ids h.shut)).win h.lim h.top 0) nx lim l := by
  refine ⟨by rw [Heap.next_win, back_hide_next, Heap.next_shut]; exact hs.next, ?_, fun p hp => ?_⟩
  · rw [show ∀ (g : Heap) a b m, (g.win a b m).lim = a from fun g _ _ _ => by cases g; rfl]
    exact hs.lim
  · obtain ⟨h1, h2, h3, h4⟩ := hs.has p hp
    exact ⟨h1, h2, h3, by rw [Heap.raw_win, back_hide_raw ids h h.shut (fun k => Heap.raw_shut h k)]; exact h4⟩
end

/-- Within a drawn region: what was there ahead of it, what it has made. -/
structure HW (h : Heap) (nx lm : Nat) (l w : List (Nat × Blk)) : Prop where
  hs : HS h nx lm l
  has : ∀ p ∈ w, lm ≤ p.1 ∧ p.1 < nx ∧ p.1 < cap ∧ h.raw p.1 = p.2
section
variable {h h' : Heap} {nx lim : Nat} {l w : List (Nat × Blk)} {b m : Nat} {x y : Blk}
theorem HS.win (hs : HS h nx lim l) : HW h nx lim l [] := ⟨hs, fun p hp => by cases hp⟩
theorem HW.look (hw : HW h nx lim l w) (m : Nat) : HW (h.look m) nx lim l w := ⟨hw.hs.look m, fun p hp => by rw [Heap.raw_look]; exact hw.has p hp⟩
theorem HW.shut (hw : HW h nx lim l w) : HS h.shut nx far (w ++ l) :=
  ⟨hw.hs.shut.next, lim_shut h, fun p hp => by
    rcases List.mem_append.1 hp with hp | hp
    · obtain ⟨h1, h2, h3, h4⟩ := hw.has p hp
      exact ⟨h2, far_big h3, h3, by rw [Heap.raw_shut]; exact h4⟩
    · exact hw.hs.shut.has p hp⟩
theorem HW.new (hw : HW h nx lim l w) {b : Nat} (h1 : lim ≤ b) (h2 : b < nx) (h3 : b < cap) (hn : ∀ p ∈ w, p.1 ≠ b) (x : Blk) : HW (hnewF h b x) nx lim l ((b, x) :: w) := by
  rw [hnewF_eq]
  refine ⟨⟨by rw [Heap.next_new, hw.hs.next, if_neg (by omega)], by rw [(Heap.win_new h b x).1]; exact hw.hs.lim, fun p hp => ?_⟩, fun p hp => ?_⟩
  · obtain ⟨g1, g2, g3, g4⟩ := hw.hs.has p hp
    exact ⟨g1, g2, g3, by rw [Heap.raw_new, if_neg (fun e => by omega)]; exact g4⟩
  · rcases List.mem_cons.1 hp with rfl | hp
    · exact ⟨h1, h2, h3, by rw [Heap.raw_new, if_pos ⟨rfl, h3⟩]⟩
    · obtain ⟨g1, g2, g3, g4⟩ := hw.has p hp
      exact ⟨g1, g2, g3, by rw [Heap.raw_new, if_neg (fun e => hn p hp e.1)]; exact g4⟩
theorem HW.get (hw : HW h nx lim l w) (hb : (b, x) ∈ w) (hm : Nat.testBit m (b - lim) = true) : hgetF (h.look m) b = x := by
  obtain ⟨h1, h2, h3, h4⟩ := hw.has _ hb
  rw [hgetF_eq]
  unfold Heap.get Heap.see
  rw [Heap.lim_look, hw.hs.lim, Heap.raw_look, h4]
  have e1 : Nat.blt b lim = false := by cases hq : Nat.blt b lim; rfl; have := blt_iff.1 hq; omega
  have e2 : (h.look m).mask = m := by cases h; rfl
  rw [e1, e2, hm]
  show bi (bi (Nat.ble (h.look m).top b) true true) x .none = x
  cases Nat.ble (h.look m).top b <;> rfl
theorem HW.set (hw : HW h nx lim l w) (hb : (b, x) ∈ w) (y : Blk) (w' : List (Nat × Blk)) (hl : ∀ p ∈ w', p ∈ w ∧ p.1 ≠ b) : HW (hsetF h b y) nx lim l ((b, y) :: w') := by
  rw [hsetF_eq]
  obtain ⟨g1, g2, g3, g4⟩ := hw.has _ hb
  refine ⟨⟨by rw [Heap.next_set]; exact hw.hs.next, by rw [(Heap.win_set h b y).1]; exact hw.hs.lim, fun p hp => ?_⟩, fun p hp => ?_⟩
  · obtain ⟨h1, h2, h3, h4⟩ := hw.hs.has p hp
    exact ⟨h1, h2, h3, by rw [Heap.raw_set, if_neg (fun e => by omega)]; exact h4⟩
  · rcases List.mem_cons.1 hp with rfl | hp
    · exact ⟨g1, g2, g3, by rw [Heap.raw_set, if_pos ⟨rfl, g3⟩]⟩
    · obtain ⟨h5, h6⟩ := hl p hp
      obtain ⟨h1, h2, h3, h4⟩ := hw.has p h5
      exact ⟨h1, h2, h3, by rw [Heap.raw_set, if_neg (fun e => h6 e.1)]; exact h4⟩
end

/-! ### Words -/
section
variable {P : Program} {cfg : Cfg} {h : Heap} {nx lim : Nat} {l : List (Nat × Blk)}
abbrev KA := AV → Prop
theorem wp_if {q : Bool} {X Y : Prop} (h1 : q = true → X) (h2 : q = false → Y) : ifF False (.b q) X Y := by
  cases q
  · exact h2 rfl
  · exact h1 rfl
theorem wp_bk_t {q : Bool} {X Y : Prop} (h1 : q = true → X) (h2 : q = false → Y) : bkF False true (.b q) X Y := by
  cases q
  · exact h2 rfl
  · exact h1 rfl
theorem wp_bk_f {q : Bool} {X Y : Prop} (h1 : q = false → X) (h2 : q = true → Y) : bkF False false (.b q) X Y := by
  cases q
  · exact h1 rfl
  · exact h2 rfl
theorem wp_bk_skip {w : Bool} {X Y : Prop} (h2 : Y) : bkF False w (.tup []) X Y := h2
theorem wp_pick {q : Bool} {a b : AV} {K : KA} (h1 : q = true → K a) (h2 : q = false → K b) : pickF False (.b q) a b K := by
  cases q
  · exact h2 rfl
  · exact h1 rfl
theorem wp_pk {kr : PK} {v : AV} {X : Prop} (hv : asPn v = none) (hX : X) : pk kr v h X := by
  show Option.rec (motive := fun _ => Prop) X _ (asPn v)
  rw [hv]
  exact hX
theorem wp_pn {v : AV} {X : Prop} {p : AV → Prop} (hv : asPn v = none) (hX : X) : pnF v p X := by
  show Option.rec (motive := fun _ => Prop) X _ (asPn v)
  rw [hv]
  exact hX
theorem wp_not {q : Bool} {K : KA} (hk : K (.b (!q))) : notF False (.b q) K := by
  cases q <;> exact hk
/-! Parts. -/
theorem wp_fa_fp {o : Nat} {c : List AV} {K : KA} (hk : K (.fp (ldrop c o))) : faF False o (.fp c) K := hk
theorem wp_fa_p {o b i off : Nat} {K : KA} (hk : K (.p b i (off + o))) : faF False o (.p b i off) K := hk
theorem wp_ld_fp {c : List AV} {v : AV} {K : KA} (hv : lnth c 0 = some v) (hk : K v) : load1F False h (.fp c) K := by
  show Option.rec (motive := fun _ => Prop) False K (lnth c 0)
  rw [hv]
  exact hk
theorem wp_ld_fpo {c : List AV} {o : Nat} {v : AV} {K : KA} (hv : lnth c o = some v) (hk : K v) : load1F False h (.fp (ldrop c o)) K := by
  refine wp_ld_fp ?_ hk
  rw [lnth_eq, ldrop_eq, List.getElem?_drop, ← lnth_eq]
  exact hv
theorem wp_ld_p {b i o z : Nat} {el : List (List AV)} {e : List AV} {v : AV} {K : KA} (hs : HS h nx lim l) (hb : (b, Blk.cells z el) ∈ l) (he : lnth el i = some e) (hv : lnth e o = some v) (hk : K v) : load1F False h (.p b i o) K := by
  show Option.rec (motive := fun _ => Prop) False K (Option.rec none (fun el => Option.rec none (fun e => lnth e o) (elF el i)) (blkE (hgetF h b)))
  rw [hs.get hb]
  show Option.rec (motive := fun _ => Prop) False K (Option.rec none (fun e => lnth e o) (elF el i))
  rw [elF_eq, he]
  show Option.rec (motive := fun _ => Prop) False K (lnth e o)
  rw [hv]
  exact hk
theorem wp_ldN_fp {n : Nat} {c : List AV} {K : KA} (hn : lhas c n = true) (hk : K (.agg c)) : loadNF False h n (.fp c) K := by
  show Option.rec (motive := fun _ => Prop) False _ (subF c 0 n)
  unfold subF
  rw [hn]
  exact hk
theorem wp_ldN_p {b i n z : Nat} {el : List (List AV)} {e : List AV} {K : KA} (hs : HS h nx lim l) (hb : (b, Blk.cells z el) ∈ l) (he : lnth el i = some e) (hn : lhas e n = true) (hk : K (.agg e)) : loadNF False h n (.p b i 0) K := by
  show Option.rec (motive := fun _ => Prop) False _ (Option.rec none (fun el => Option.rec none (fun e => subF e 0 n) (elF el i)) (blkE (hgetF h b)))
  rw [hs.get hb]
  show Option.rec (motive := fun _ => Prop) False _ (Option.rec none (fun e => subF e 0 n) (elF el i))
  rw [elF_eq, he]
  show Option.rec (motive := fun _ => Prop) False _ (subF e 0 n)
  unfold subF
  rw [hn]
  exact hk
theorem wp_fld {o : Nat} {c : List AV} {v : AV} {K : KA} (hv : lnth c o = some v) (hk : K v) : fieldF False o (.agg c) K := by
  show Option.rec (motive := fun _ => Prop) False K (lnth c o)
  rw [hv]
  exact hk
theorem wp_ex {i : Nat} {c : List AV} {v : AV} {K : KA} (hv : lnth c i = some v) (hk : K v) : exF False (.tup c) i K := by
  show Option.rec (motive := fun _ => Prop) False K (lnth c i)
  rw [hv]
  exact hk
/-! New blocks, stores. -/
theorem wp_new {sz : Nat} {z : List AV} {K : PK} (hs : HS h nx far l) (hc : nx < cap) (hk : ∀ h', HS h' (nx + 1) far ((nx, .cells sz [z]) :: l) → K (.p nx 0 0) h') : newF h h.next sz z K := by
  show K (.p h.next 0 0) (hnewF h h.next (.cells sz [z]))
  rw [hs.next]
  exact hk _ (hs.new' hc _)
theorem wp_newE {sz n : Nat} {el : List (List AV)} {K : PK} (hs : HS h nx far l) (hc : nx < cap) (hk : ∀ h', HS h' (nx + 1) far ((nx, .cells sz el) :: l) → K (.sl nx sz 0 n n true) h') : newEF h h.next sz n el K := by
  show K (.sl h.next sz 0 n n true) (hnewF h h.next (.cells sz el))
  rw [hs.next]
  exact hk _ (hs.new' hc _)
theorem wp_box {v : AV} {c : List AV} {K : PK} (hs : HS h nx far l) (hc : nx < cap) (hu : unV v = false) (hv : cellsF v = c) (hk : ∀ h', HS h' (nx + 1) far ((nx, .cells (llen c) [c]) :: l) → K (.p nx 0 0) h') : boxF False v h h.next K := by
  show Bool.rec (motive := fun _ => Prop) (K (.p h.next 0 0) (hnewF h h.next (.cells (llen (cellsF v)) [cellsF v]))) False (unV v)
  rw [hu, hv, hs.next]
  exact hk _ (hs.new' hc _)
theorem newEl_all {e cs : List AV} (he : e.length = cs.length) : newEl e cs 0 cs.length = cs := by
  unfold newEl
  rw [lapp_eq, lapp_eq, ltake_eq, ldrop_eq, Nat.zero_add, ← he, List.drop_length]
  simp
theorem storeF_eq' {n : Nat} {x y : AV} {k : Heap → Prop} : storeF False h n x y k = storeN False h n x y.cells k := by rw [storeF_eq]
theorem ones_all {cs : List AV} (hc : ∀ c ∈ cs, AV.one c = true) : AV.ones cs = true := by unfold AV.ones; rw [lall_eq, List.all_eq_true]; exact hc
/-- A whole element is stored. -/
theorem wp_stN {b i n z : Nat} {el : List (List AV)} {e cs : List AV} {v : AV} {K : Heap → Prop} (hs : HS h nx lim l) (hb : (b, Blk.cells z el) ∈ l) (he : lnth el i = some e) (hv : v.cells = cs) (hn : cs.length = n) (hm : e.length = n) (ho : AV.ones cs = true)
    (l' : List (Nat × Blk)) (hl : ∀ p ∈ l', p ∈ l ∧ p.1 ≠ b) (hk : ∀ h', HS h' nx lim ((b, .cells z (lset el cs i)) :: l') → K h') : storeF False h n (.p b i 0) v K := by
  rw [storeF_eq', hv]
  unfold storeN
  rw [lhas_iff.2 hn, ho]
  have hg : h.get b = .cells z el := by rw [← hgetF_eq]; exact hs.get hb
  show wrt False h (.p b i 0) n cs K
  unfold wrt
  dsimp only
  rw [hg]
  show wrEl False h b z el i 0 n cs K
  unfold wrEl
  rw [he]
  show bi (Nat.ble (0 + n) (llen e)) (K (h.set b (.cells z (lset el (newEl e cs 0 n) i)))) False
  rw [llen_eq, ble_iff.2 (by omega), ← hn, newEl_all (by omega), ← hsetF_eq]
  exact hk _ (hs.set hb _ l' hl)
/-- One cell is stored. -/
theorem wp_st1 {b i o z : Nat} {el : List (List AV)} {e : List AV} {v : AV} {K : Heap → Prop} (hs : HS h nx lim l) (hb : (b, Blk.cells z el) ∈ l) (he : lnth el i = some e) (ho : Nat.ble (Nat.succ o) (llen e) = true) (h1 : oneV v = true) (h2 : plainV v = true)
    (l' : List (Nat × Blk)) (hl : ∀ p ∈ l', p ∈ l ∧ p.1 ≠ b) (hk : ∀ h', HS h' nx lim ((b, .cells z (lset el (lset e v o) i)) :: l') → K h') : storeF False h 1 (.p b i o) v K := by
  unfold storeF
  rw [h1, h2]
  show Option.rec (motive := fun _ => Prop) False (fun p : PB => Option.rec (motive := fun _ => Prop) False (fun e => Bool.rec (motive := fun _ => Prop) False (K (hsetF h b (.cells p.1 (lset p.2 (lset e v o) i)))) (Nat.ble (Nat.succ o) (llen e))) (elF p.2 i)) (blkC (hgetF h b))
  rw [hs.get hb]
  show Option.rec (motive := fun _ => Prop) False (fun e => Bool.rec (motive := fun _ => Prop) False (K (hsetF h b (.cells z (lset el (lset e v o) i)))) (Nat.ble (Nat.succ o) (llen e))) (elF el i)
  rw [elF_eq, he]
  show Bool.rec (motive := fun _ => Prop) False (K (hsetF h b (.cells z (lset el (lset e v o) i)))) (Nat.ble (Nat.succ o) (llen e))
  rw [ho]
  exact hk _ (hs.set hb _ l' hl)
/-- The same stores; what is kept of the other blocks is told by a rule. -/
theorem wp_stN' {b i n z : Nat} {el : List (List AV)} {e cs : List AV} {v : AV} {K : Heap → Prop} (hs : HS h nx lim l) (hb : (b, Blk.cells z el) ∈ l) (he : lnth el i = some e) (hv : v.cells = cs) (hn : cs.length = n) (hm : e.length = n) (ho : AV.ones cs = true)
    (hk : ∀ h' l', HS h' nx lim l' → (b, Blk.cells z (lset el cs i)) ∈ l' → (∀ p ∈ l, p.1 ≠ b → p ∈ l') → K h') : storeF False h n (.p b i 0) v K :=
  wp_stN hs hb he hv hn hm ho (l.filter fun p => !(p.1 == b)) (fun p hp => by rw [List.mem_filter] at hp; exact ⟨hp.1, by simpa using hp.2⟩) fun h' hs' => hk h' _ hs' mem0 fun p hp hne => memS (List.mem_filter.2 ⟨hp, by simpa using hne⟩)
theorem wp_st1' {b i o z : Nat} {el : List (List AV)} {e : List AV} {v : AV} {K : Heap → Prop} (hs : HS h nx lim l) (hb : (b, Blk.cells z el) ∈ l) (he : lnth el i = some e) (ho : Nat.ble (Nat.succ o) (llen e) = true) (h1 : oneV v = true) (h2 : plainV v = true)
    (hk : ∀ h' l', HS h' nx lim l' → (b, Blk.cells z (lset el (lset e v o) i)) ∈ l' → (∀ p ∈ l, p.1 ≠ b → p ∈ l') → K h') : storeF False h 1 (.p b i o) v K :=
  wp_st1 hs hb he ho h1 h2 (l.filter fun p => !(p.1 == b)) (fun p hp => by rw [List.mem_filter] at hp; exact ⟨hp.1, by simpa using hp.2⟩) fun h' hs' => hk h' _ hs' mem0 fun p hp hne => memS (List.mem_filter.2 ⟨hp, by simpa using hne⟩)
/-- A variable of so many cells, and what is laid into it. -/
theorem wp_var {n : Nat} {z cs : List AV} {v : AV} {K : PK} (hs : HS h nx far l) (hc : nx < cap) (hv : v.cells = cs) (hn : cs.length = n) (hm : z.length = n) (ho : AV.ones cs = true)
    (hk : ∀ h', HS h' (nx + 1) far ((nx, .cells n [cs]) :: l) → K (.p nx 0 0) h') : newF h h.next n z fun p h => storeF False h n p v fun h => K p h :=
  wp_new hs hc fun h' hs' => wp_stN hs' (List.mem_cons_self ..) rfl hv hn hm ho l (fun p hp => ⟨List.mem_cons_of_mem _ hp, by have := (hs.has p hp).1; omega⟩) fun h2 hs2 => hk h2 hs2
/-! Regions whose order is drawn. -/
theorem wp_dreg {n : Nat} {K : Nat → Heap → Prop} (hs : HS h nx far l) (hc : nx + n < cap) (hk : ∀ h', HS h' (nx + n) nx l → K nx h') : dreg False h n K := by
  show Bool.rec (motive := fun _ => Prop) False (K h.next (h.open n)) (Nat.blt (Nat.add h.next n) cap)
  rw [hs.next]
  have : Nat.blt (Nat.add nx n) cap = true := blt_iff.2 hc
  rw [this]
  exact hk _ (hs.open n)
theorem wp_hb {h : Heap} {K : Heap → Prop} (hk : K h) : hb h K := hk
theorem wp_lb {ids : List Nat} {K : List Nat → Prop} (hk : K ids) : lb ids K := hk
theorem wp_back {h g : Heap} {ids : List Nat} {K : Heap → Prop} (hi : ids = []) (hk : K g) : hb (back h ids g) K := by subst hi; exact hk
/-- A block that a drawn region makes, what is laid into it. -/
theorem wp_newD {w : List (Nat × Blk)} {base i m sz : Nat} {z : List AV} {K : PK} (hw : HW h nx base l w) (hi : base + i < nx) (hc : nx < cap) (hn : ∀ p ∈ w, p.1 ≠ base + i) (hk : ∀ h', HW h' nx base l ((base + i, .cells sz [z]) :: w) → K (.p (base + i) 0 0) h') : newF (h.look m) (Nat.add base i) sz z K := by
  show K (.p (base + i) 0 0) (hnewF (h.look m) (base + i) (.cells sz [z]))
  exact hk _ ((hw.look m).new (by omega) hi (by omega) hn _)
theorem wp_stD {w : List (Nat × Blk)} {base i m n z : Nat} {e cs : List AV} {v : AV} {K : Heap → Prop} (hw : HW h nx base l w) (hb : (base + i, Blk.cells z [e]) ∈ w) (hm : Nat.testBit m i = true) (hv : v.cells = cs) (hn : cs.length = n) (hm2 : e.length = n) (ho : AV.ones cs = true)
    (w' : List (Nat × Blk)) (hl : ∀ p ∈ w', p ∈ w ∧ p.1 ≠ base + i) (hk : ∀ h', HW h' nx base l ((base + i, .cells z [cs]) :: w') → K h') : storeF False (h.look m) n (.p (base + i) 0 0) v K := by
  rw [storeF_eq', hv]
  unfold storeN
  rw [lhas_iff.2 hn, ho]
  have hg : (h.look m).get (base + i) = .cells z [e] := by rw [← hgetF_eq]; exact hw.get hb (by rw [Nat.add_sub_cancel_left]; exact hm)
  show wrt False (h.look m) (.p (base + i) 0 0) n cs K
  unfold wrt
  dsimp only
  rw [hg]
  show wrEl False (h.look m) (base + i) z [e] 0 0 n cs K
  show bi (Nat.ble (0 + n) (llen e)) (K ((h.look m).set (base + i) (.cells z [newEl e cs 0 n]))) False
  rw [llen_eq, ble_iff.2 (by omega), ← hn, newEl_all (by omega), ← hsetF_eq]
  exact hk _ ((hw.look m).set hb _ w' hl)
theorem wp_stDh {w : List (Nat × Blk)} {base i m n z : Nat} {ids : List Nat} {e cs : List AV} {v : AV} {K : Heap → Prop} (hi : ids = []) (hw : HW h nx base l w) (hb : (base + i, Blk.cells z [e]) ∈ w) (hm : Nat.testBit m i = true) (hv : v.cells = cs) (hn : cs.length = n) (hm2 : e.length = n) (ho : AV.ones cs = true)
    (w' : List (Nat × Blk)) (hl : ∀ p ∈ w', p ∈ w ∧ p.1 ≠ base + i) (hk : ∀ h', HW h' nx base l ((base + i, .cells z [cs]) :: w') → K h') : storeF False (hide ids (h.look m)) n (.p (base + i) 0 0) v K := by
  subst hi
  exact wp_stD hw hb hm hv hn hm2 ho w' hl hk
theorem wp_root_pp {b i o i' o' : Nat} {X : Prop} (hX : X) : rootF False (.p b i o) (.p b i' o') X := by
  show bi (bi (Nat.beq b b) true false) X False
  rw [beq_iff.2 rfl]
  exact hX
theorem wp_root_ps {b i o z s n c : Nat} {f : Bool} {X : Prop} (hX : X) : rootF False (.p b i o) (.sl b z s n c f) X := by
  show bi (bi (Nat.beq b b) true false) X False
  rw [beq_iff.2 rfl]
  exact hX
theorem wp_root_n {v w : AV} {X : Prop} (hv : v.blk = none) (hX : X) : rootF False v w X := by
  unfold rootF blkOK
  rw [hv]
  exact hX
theorem refs_nil {n : Nat} : lany (refs n) [] = false := rfl
theorem refs_cons {n : Nat} {a : AV} {r : List AV} (h1 : refs n a = false) (h2 : lany (refs n) r = false) : lany (refs n) (a :: r) = false := by
  rw [lany_eq] at h2 ⊢
  rw [List.any_cons, h1, h2]; rfl
theorem ownF_of {q : Bool} {args : List AV} (hq : q = false) (hr : lany (refs 10) args = false) : ownF q args = true := by
  subst hq
  show (Bool.rec true false (lany rf10 args) : Bool) = true
  rw [rf10_eq, hr]
theorem wp_call {n f : Nat} {args : List AV} {v : AV} {K : PK} (he : EvN P cfg n f args v) (hk : K v h) : callF P False cfg n f args h K := he h K hk
theorem wp_callD {n f : Nat} {args : List AV} {ids : List Nat} {v : AV} {K : PK} (he : EvN P cfg n f args v) (hr : lany (refs 10) args = false) (hs : HS h nx lim l) (hk : ∀ h', HS h' nx lim l → K v h') : callD False (callF P False cfg n) ids f args h K := by
  unfold callD
  have hl : lendsTo ids args = false := by unfold lendsTo; rw [hr, Bool.and_false]
  rw [hl]
  refine he _ _ ?_
  have hb : Nat.ble h.next (hide ids h.shut).next = true := ble_iff.2 (by rw [hide_next, Heap.next_shut]; omega)
  show bi (Nat.ble h.next (hide ids h.shut).next) (K v ((back h ids (hide ids h.shut)).win h.lim h.top 0)) False
  rw [hb]
  exact hk _ (hs.back ids)
theorem wp_callS {n f : Nat} {args : List AV} {A : AV → Prop} {K : PK} (he : EvS P cfg n f args A) (hk : ∀ v, A v → K v h) : callF P False cfg n f args h K := he h K hk
theorem wp_callDS {n f : Nat} {args : List AV} {ids : List Nat} {A : AV → Prop} {K : PK} (he : EvS P cfg n f args A) (hr : lany (refs 10) args = false) (hs : HS h nx lim l) (hk : ∀ v h', A v → HS h' nx lim l → K v h') : callD False (callF P False cfg n) ids f args h K := by
  unfold callD
  have hl : lendsTo ids args = false := by unfold lendsTo; rw [hr, Bool.and_false]
  rw [hl]
  refine he _ _ fun v hv => ?_
  have hb : Nat.ble h.next (hide ids h.shut).next = true := ble_iff.2 (by rw [hide_next, Heap.next_shut]; omega)
  show bi (Nat.ble h.next (hide ids h.shut).next) (K v ((back h ids (hide ids h.shut)).win h.lim h.top 0)) False
  rw [hb]
  exact hk _ _ hv (hs.back ids)
theorem wp_cf {n j : Nat} {args : List AV} {v : AV} {K : PK} (he : EvN P cfg n j args v) (hk : K v h) : cfF False (.fn (.func j) [] []) args (callF P False cfg n) h K := by
  have : lapp args [] = args := by rw [lapp_eq, List.append_nil]
  show callF P False cfg n j (lapp [] (lapp args [])) h K
  rw [this]
  exact he h K hk
/-! Results that lie in cells; structs that are laid together. -/
theorem ldA_agg {ty b z : Nat} {e : List AV} (hs : HS h nx lim l) (hb : (b, Blk.cells z [e]) ∈ l) (h1 : knownT P ty = true) (h2 : isAggT P ty = true) (h3 : Nat.blt 0 (szOf P ty) = true) (hn : lhas e (szOf P ty) = true) : loadA P none h ty (.p b 0 0) some = some (.agg e) := by
  unfold loadA
  rw [h1, h2, h3]
  show loadN none h (szOf P ty) (.p b 0 0) some = _
  rw [← loadNF_eq]
  show Option.rec (motive := fun _ => Option AV) none (fun c => some (AV.agg c)) (Option.rec none (fun el => Option.rec none (fun e => subF e 0 (szOf P ty)) (elF el 0)) (blkE (hgetF h b))) = _
  rw [hs.get hb]
  show Option.rec (motive := fun _ => Option AV) none (fun c => some (AV.agg c)) (subF e 0 (szOf P ty)) = _
  unfold subF
  rw [hn]
  rfl
theorem ldA_one {ty b z : Nat} {v : AV} {r : List AV} (hs : HS h nx lim l) (hb : (b, Blk.cells z [v :: r]) ∈ l) (h1 : knownT P ty = true) (h2 : isAggT P ty = false) : loadA P none h ty (.p b 0 0) some = some v := by
  unfold loadA
  rw [h1, h2]
  show load1 none h (.p b 0 0) some = _
  rw [← load1F_eq]
  show Option.rec (motive := fun _ => Option AV) none some (Option.rec none (fun el => Option.rec none (fun e => lnth e 0) (elF el 0)) (blkE (hgetF h b))) = _
  rw [hs.get hb]
  rfl
/-- A result that lies in a cell, or none does. -/
noncomputable def resOne (P : Program) (h : Heap) (p : AV × Option TypeId) : Option AV := match p.2 with | none => some p.1 | some ty => loadA P none h ty p.1 some
theorem resV_eq (P : Program) (h : Heap) (r : List (AV × Option TypeId)) : resV P h r = ob (lmapO (resOne P h) r) fun l => match l with | [v] => some v | vs => some (.tup vs) := rfl
theorem wp_res1 {ty : Nat} {x v : AV} {K : KA} (hx : loadA P none h ty x some = some v) (hk : K v) : on False (resV P h [(x, some ty)]) K := by
  have e : lmapO (resOne P h) [(x, some ty)] = some [v] := by
    show Option.rec (motive := fun _ => Option (List AV)) none (fun y => some [y]) (loadA P none h ty x some) = _
    rw [hx]
  rw [resV_eq, e]
  exact hk
theorem wp_lay {off : Nat} {x : AV} {z : List AV} {K : List AV → Prop} (h1 : oneV x = true) (h2 : plainV x = true) (h3 : Nat.ble (Nat.succ off) (llen z) = true) (hk : K (lset z x off)) : layF False off x z K := by
  unfold layF
  rw [h1, h2]
  show Bool.rec (motive := fun _ => Prop) False (K (lset z x off)) (Nat.ble (Nat.succ off) (llen z))
  rw [h3]
  exact hk
/-! Numbers, texts. -/
theorem wr64_of {n : Int} (h1 : -(2 ^ 63) ≤ n) (h2 : n < 2 ^ 63) : wr64 n = n := by
  unfold wr64
  cases n with
  | ofNat n =>
    show bi (Nat.blt n (2 ^ 63)) _ _ = _
    rw [blt_iff.2 (by have : (n : Int) < 2 ^ 63 := h2; omega)]
  | negSucc n =>
    show bi (Nat.blt n (2 ^ 63)) _ _ = _
    rw [blt_iff.2 (by have := h1; rw [Int.negSucc_eq] at this; omega)]
theorem wp_add {t : TypeId} {a b c : Int} {K : KA} (hc : a + b = c) (h1 : -(2 ^ 63) ≤ c) (h2 : c < 2 ^ 63) (hk : K (.i .i64 c)) : addF P False t (.i .i64 a) (.i .i64 b) K := by
  show K (.i .i64 (wr64 (iadd a b)))
  rw [iadd_eq, hc, wr64_of h1 h2]
  exact hk
theorem ltF_iff {a b : Int} : ltF a b = decide (a < b) := by
  have key : ltF a b = true ↔ a < b := by
    cases a with
    | ofNat m =>
      cases b with
      | ofNat n => show Nat.ble (Nat.succ m) n = true ↔ _; rw [ble_iff, Int.ofNat_eq_natCast, Int.ofNat_eq_natCast]; omega
      | negSucc n => show false = true ↔ _; rw [Int.negSucc_eq, Int.ofNat_eq_natCast]; constructor; intro h; cases h; intro h; omega
    | negSucc m =>
      cases b with
      | ofNat n => show true = true ↔ _; rw [Int.negSucc_eq, Int.ofNat_eq_natCast]; constructor; intro _; omega; intro _; rfl
      | negSucc n => show Nat.ble (Nat.succ n) m = true ↔ _; rw [ble_iff, Int.negSucc_eq, Int.negSucc_eq]; omega
  by_cases h : a < b
  · rw [decide_eq_true h]; exact key.2 h
  · rw [decide_eq_false h]
    cases hq : ltF a b
    · rfl
    · exact absurd (key.1 hq) h
theorem eqF_iff {a b : Int} : eqF a b = decide (a = b) := by
  have key : eqF a b = true ↔ a = b := by
    cases a with
    | ofNat m =>
      cases b with
      | ofNat n => show Nat.beq m n = true ↔ _; rw [beq_iff, Int.ofNat_eq_natCast, Int.ofNat_eq_natCast]; omega
      | negSucc n => show false = true ↔ _; rw [Int.negSucc_eq, Int.ofNat_eq_natCast]; constructor; intro h; cases h; intro h; omega
    | negSucc m =>
      cases b with
      | ofNat n => show false = true ↔ _; rw [Int.negSucc_eq, Int.ofNat_eq_natCast]; constructor; intro h; cases h; intro h; omega
      | negSucc n => show Nat.beq m n = true ↔ _; rw [beq_iff, Int.negSucc_eq, Int.negSucc_eq]; omega
  by_cases h : a = b
  · rw [decide_eq_true h]; exact key.2 h
  · rw [decide_eq_false h]
    cases hq : eqF a b
    · rfl
    · exact absurd (key.1 hq) h
theorem wp_lss {t : TypeId} {a b : Int} {K : KA} (hk : K (.b (decide (a < b)))) : lssF P False t (.i .i64 a) (.i .i64 b) K := by
  show K (.b (ltF a b))
  rw [ltF_iff]; exact hk
theorem wp_gtr {t : TypeId} {a b : Int} {K : KA} (hk : K (.b (decide (b < a)))) : gtrF P False t (.i .i64 a) (.i .i64 b) K := by
  show K (.b (ltF b a))
  rw [ltF_iff]; exact hk
theorem wp_leq {t : TypeId} {a b : Int} {K : KA} (hk : K (.b (decide (a ≤ b)))) : leqF P False t (.i .i64 a) (.i .i64 b) K := by
  show K (.b (Bool.rec true false (ltF b a)))
  have : (Bool.rec true false (ltF b a) : Bool) = decide (a ≤ b) := by
    rw [ltF_iff]
    by_cases h : a ≤ b
    · rw [decide_eq_true h, decide_eq_false (by omega)]
    · rw [decide_eq_false h, decide_eq_true (by omega)]
  rw [this]; exact hk
theorem wp_geq {t : TypeId} {a b : Int} {K : KA} (hk : K (.b (decide (b ≤ a)))) : geqF P False t (.i .i64 a) (.i .i64 b) K := by
  show K (.b (Bool.rec true false (ltF a b)))
  have : (Bool.rec true false (ltF a b) : Bool) = decide (b ≤ a) := by
    rw [ltF_iff]
    by_cases h : b ≤ a
    · rw [decide_eq_true h, decide_eq_false (by omega)]
    · rw [decide_eq_false h, decide_eq_true (by omega)]
  rw [this]; exact hk
theorem wp_eqi {t : TypeId} {a b : Int} {K : KA} (hk : K (.b (decide (a = b)))) : eqiF P False t (.i .i64 a) (.i .i64 b) K := by
  show K (.b (eqF a b))
  rw [eqF_iff]; exact hk
theorem wp_nei {t : TypeId} {a b : Int} {K : KA} (hk : K (.b (decide (a ≠ b)))) : neiF P False t (.i .i64 a) (.i .i64 b) K := by
  show K (.b (Bool.rec true false (eqF a b)))
  have : (Bool.rec true false (eqF a b) : Bool) = decide (a ≠ b) := by
    rw [eqF_iff]
    by_cases h : a = b
    · rw [decide_eq_true h, decide_eq_false (by simpa using h)]
    · rw [decide_eq_false h, decide_eq_true h]
  rw [this]; exact hk
/-- Numbers of another kind. -/
theorem ieq_iff {a b : Int} : ieq a b = decide (a = b) := by rw [← eqF_iff]; cases a <;> cases b <;> rfl
theorem wp_eqi32 {t : TypeId} {a b : Int} {K : KA} (hk : K (.b (decide (a = b)))) : eqiF P False t (.i .i32 a) (.i .i32 b) K := by
  show K (.b (ieq a b))
  rw [ieq_iff]; exact hk
theorem wp_nei32 {t : TypeId} {a b : Int} {K : KA} (hk : K (.b (decide (a ≠ b)))) : neiF P False t (.i .i32 a) (.i .i32 b) K := by
  show K (.b (!ieq a b))
  rw [ieq_iff, ← decide_not]; exact hk
theorem seq_iff {l v m w : Nat} : (Bool.rec false (Nat.beq v w) (Nat.beq l m) : Bool) = decide (l = m ∧ v = w) := by
  by_cases h1 : l = m
  · subst h1
    rw [beq_iff.2 rfl]
    show Nat.beq v w = _
    by_cases h2 : v = w
    · subst h2; rw [beq_iff.2 rfl]; simp
    · cases hb : Nat.beq v w
      · simp [h2]
      · exact absurd (beq_iff.1 hb) h2
  · cases hb : Nat.beq l m
    · simp [h1]
    · exact absurd (beq_iff.1 hb) h1
theorem wp_eqs {t : TypeId} {l v m w : Nat} {K : KA} (hk : K (.b (decide (l = m ∧ v = w)))) : eqsF P False t (.s l v) (.s m w) K := by
  show K (.b (Bool.rec false (Nat.beq v w) (Nat.beq l m)))
  rw [seq_iff]; exact hk
theorem wp_nes {t : TypeId} {l v m w : Nat} {K : KA} (hk : K (.b (decide ¬ (l = m ∧ v = w)))) : nesF P False t (.s l v) (.s m w) K := by
  show K (.b (Bool.rec true (Bool.rec true false (Nat.beq v w)) (Nat.beq l m)))
  have : (Bool.rec true (Bool.rec true false (Nat.beq v w)) (Nat.beq l m) : Bool) = !(Bool.rec false (Nat.beq v w) (Nat.beq l m) : Bool) := by cases Nat.beq l m <;> cases Nat.beq v w <;> rfl
  rw [this, seq_iff, ← decide_not]; exact hk
theorem wp_lens {l v : Nat} {K : KA} (hk : K (.i .i64 (l : Int))) : lensF False (.s l v) K := hk
theorem wp_min {a b : Int} {K : KA} (hk : K (.i .i64 (min a b))) : minmax False false (.i .i64 a) (.i .i64 b) K := by
  show K (.i .i64 (bi (ilt a b) (bi false b a) (bi false a b)))
  have : (bi (ilt a b) (bi false b a) (bi false a b) : Int) = min a b := by
    have e : ilt a b = ltF a b := by cases a <;> cases b <;> first | rfl | skip
    rw [e, ltF_iff]
    by_cases h : a < b
    · rw [decide_eq_true h]; show a = min a b; omega
    · rw [decide_eq_false h]; show b = min a b; omega
  rw [this]; exact hk
theorem wp_max {a b : Int} {K : KA} (hk : K (.i .i64 (max a b))) : minmax False true (.i .i64 a) (.i .i64 b) K := by
  show K (.i .i64 (bi (ilt a b) (bi true b a) (bi true a b)))
  have : (bi (ilt a b) (bi true b a) (bi true a b) : Int) = max a b := by
    have e : ilt a b = ltF a b := by cases a <;> cases b <;> first | rfl | skip
    rw [e, ltF_iff]
    by_cases h : a < b
    · rw [decide_eq_true h]; show b = max a b; omega
    · rw [decide_eq_false h]; show a = max a b; omega
  rw [this]; exact hk

theorem wp_eqi_rfl {t : TypeId} {a : Int} {K : KA} (hk : K (.b true)) : eqiF P False t (.i .i64 a) (.i .i64 a) K := wp_eqi (by rw [decide_eq_true rfl]; exact hk)
theorem wp_eqb {t : TypeId} {x y : Bool} {K : KA} (ht : undOf P t = some .bool) (hk : K (.b (x == y))) : eqiF P False t (.b x) (.b y) K := by
  show on False (eqA P t (.b x) (.b y)) fun r => K (.b r)
  have : eqA P t (.b x) (.b y) = some (x == y) := by
    show eqT P t (.b x) (.b y) = _
    unfold eqT
    rw [ht]
  rw [this]
  exact hk
theorem wp_eqb_rfl {t : TypeId} {x : Bool} {K : KA} (ht : undOf P t = some .bool) (hk : K (.b true)) : eqiF P False t (.b x) (.b x) K := wp_eqb ht (by rw [beq_self_eq_true]; exact hk)
/-! ### Slices that are data -/
/-- How a slice stands there: nil, empty, with room that is not known, just so long. -/
inductive Tg | nil | es | fs | ff
  deriving DecidableEq
/-- A slice of these elements. -/
def slA (sz : Nat) (t : Tg) (el : List (List AV)) : AV :=
  match el, t with
  | [], .nil => .nsl
  | [], .es => .es
  | el, .ff => .fs sz true el
  | el, _ => .fs sz false el
theorem slA_cases (sz : Nat) (t : Tg) (el : List (List AV)) : (el = [] ∧ slA sz t el = .nsl) ∨ (el = [] ∧ slA sz t el = .es) ∨ ∃ f, slA sz t el = .fs sz f el := by
  cases el <;> cases t <;> first | exact .inl ⟨rfl, rfl⟩ | exact .inr (.inl ⟨rfl, rfl⟩) | exact .inr (.inr ⟨_, rfl⟩)
variable {sz : Nat} {t : Tg} {el : List (List AV)}
theorem asPn_sl : asPn (slA sz t el) = none := by rcases slA_cases sz t el with ⟨_, e⟩ | ⟨_, e⟩ | ⟨f, e⟩ <;> rw [e] <;> rfl
theorem one_sl : AV.one (slA sz t el) = true := by rcases slA_cases sz t el with ⟨_, e⟩ | ⟨_, e⟩ | ⟨f, e⟩ <;> rw [e] <;> rfl
theorem oneV_sl : oneV (slA sz t el) = true := by rcases slA_cases sz t el with ⟨_, e⟩ | ⟨_, e⟩ | ⟨f, e⟩ <;> rw [e] <;> rfl
theorem plainV_sl : plainV (slA sz t el) = true := by rcases slA_cases sz t el with ⟨_, e⟩ | ⟨_, e⟩ | ⟨f, e⟩ <;> rw [e] <;> rfl
theorem unV_sl : unV (slA sz t el) = false := by rcases slA_cases sz t el with ⟨_, e⟩ | ⟨_, e⟩ | ⟨f, e⟩ <;> rw [e] <;> rfl
theorem isUn_sl : isUn (slA sz t el) = false := by rcases slA_cases sz t el with ⟨_, e⟩ | ⟨_, e⟩ | ⟨f, e⟩ <;> rw [e] <;> rfl
theorem cellsF_sl : cellsF (slA sz t el) = [slA sz t el] := by rcases slA_cases sz t el with ⟨_, e⟩ | ⟨_, e⟩ | ⟨f, e⟩ <;> rw [e] <;> rfl
theorem cells_sl : (slA sz t el).cells = [slA sz t el] := by rcases slA_cases sz t el with ⟨_, e⟩ | ⟨_, e⟩ | ⟨f, e⟩ <;> rw [e] <;> rfl
theorem blk_sl : (slA sz t el).blk = none := by rcases slA_cases sz t el with ⟨_, e⟩ | ⟨_, e⟩ | ⟨f, e⟩ <;> rw [e] <;> rfl
theorem refs_sl (n : Nat) : refs (n + 1) (slA sz t el) = false := by rcases slA_cases sz t el with ⟨_, e⟩ | ⟨_, e⟩ | ⟨f, e⟩ <;> rw [e] <;> rfl
theorem frz_sl (h : Heap) (n : Nat) : frz h (n + 1) (slA sz t el) = some (slA sz t el) := by rcases slA_cases sz t el with ⟨_, e⟩ | ⟨_, e⟩ | ⟨f, e⟩ <;> rw [e] <;> rfl
theorem wp_len {K : KA} (hk : K (.i .i64 (el.length : Int))) : lenF False (slA sz t el) K := by
  rcases slA_cases sz t el with ⟨e1, e⟩ | ⟨e1, e⟩ | ⟨f, e⟩
  · rw [e]; rw [e1] at hk; exact hk
  · rw [e]; rw [e1] at hk; exact hk
  · rw [e]
    show K (.i .i64 (.ofNat (llen el)))
    rw [llen_eq]
    exact hk
theorem wp_ix {k : IntKind} {i : Nat} {c : List AV} {K : KA} (hi : el[i]? = some c) (hk : K (.fp c)) : ixF False sz (slA sz t el) (.i k (i : Int)) K := by
  rcases slA_cases sz t el with ⟨e1, e⟩ | ⟨e1, e⟩ | ⟨f, e⟩
  · rw [e1] at hi; simp at hi
  · rw [e1] at hi; simp at hi
  · rw [e]
    show Bool.rec (motive := fun _ => Prop) False (Option.rec (motive := fun _ => Prop) False (fun c => K (.fp c)) (lnth el i)) (Nat.beq sz sz)
    rw [beq_iff.2 rfl, lnth_eq, hi]
    exact hk
theorem wp_len_bl {b sz s n c : Nat} {f : Bool} {K : KA} (hk : K (.i .i64 (n : Int))) : lenF False (.sl b sz s n c f) K := hk
theorem wp_ix_bl {b sz s n c i : Nat} {f : Bool} {k : IntKind} {K : KA} (hi : i < n) (hk : K (.p b (s + i) 0)) : ixF False sz (.sl b sz s n c f) (.i k (i : Int)) K := by
  show Bool.rec (motive := fun _ => Prop) False (K (.p b (Nat.add s i) 0)) (Nat.beq sz sz && Nat.ble (Nat.succ i) n)
  rw [beq_iff.2 rfl, ble_iff.2 (by omega)]
  exact hk
theorem wp_fil {sz len i : Nat} {v : AV} {cs : List AV} {el : List (List AV)} {K : List (List AV) → Prop} (hu : isUn v = false) (hv : v.cells = cs) (hs : lhas cs sz = true) (hi : Nat.blt i len = true) (hk : K (lset el cs i)) : fil1 False sz len i v el K := by
  show Option.rec (motive := fun _ => Prop) False (fun cs => bi (lhas cs sz && Nat.blt i len) (K (lset el cs i)) False) (bi (isUn v) none (some v.cells))
  rw [hu, hv]
  show bi (lhas cs sz && Nat.blt i len) (K (lset el cs i)) False
  rw [hs, hi]
  exact hk
theorem wp_fil1 {sz : Nat} {v : AV} {cs z : List AV} {K : List (List AV) → Prop} (hu : isUn v = false) (hv : v.cells = cs) (hs : lhas cs sz = true) (hk : K [cs]) : fil1 False sz 1 0 v [z] K := wp_fil hu hv hs rfl hk
theorem lhas_of {c : List AV} {n : Nat} (h : c.length = n) : lhas c n = true := lhas_iff.2 h
end
end Go.Zev
/-
  General proofs: a program's data as trees (expressions, statements, fields, methods, classes), and how they stand in cells. Printed by mkdata.py.
-/
set_option linter.unusedVariables false
namespace Go.Zev
open Go
/-- A text. -/
structure S where
  len : Nat
  val : Nat
  deriving DecidableEq
abbrev S.av (s : S) : AV := .s s.len s.val
theorem refs_agg {n : Nat} {cs : List AV} (h : ∀ c ∈ cs, refs n c = false) : refs (n + 1) (.agg cs) = false := by
  show lany (refs n) cs = false
  rw [lany_eq, List.any_eq_false]
  intro c hc
  rw [h c hc]
  simp
theorem lmapO_id {α : Type} {f : α → Option α} : ∀ {l : List α}, (∀ x ∈ l, f x = some x) → lmapO f l = some l
  | [], _ => rfl
  | x :: l, h => by
    show Option.rec (motive := fun _ => Option (List _)) none (fun y => Option.rec (motive := fun _ => Option (List _)) none (fun r => some (y :: r)) (lmapO f l)) (f x) = _
    rw [h x (List.mem_cons_self ..), lmapO_id fun y hy => h y (List.mem_cons_of_mem _ hy)]
theorem frz_agg {h : Heap} {n : Nat} {cs : List AV} (hc : ∀ c ∈ cs, frz h n c = some c) : frz h (n + 1) (.agg cs) = some (.agg cs) := by
  show ob (lmapO (frz h n) cs) (fun cs => some (AV.agg cs)) = _
  rw [lmapO_id hc]
inductive Expr where
  | mk (kind : Int) (num : Int) (text : S) (name : S) (type : S) (tl : Tg) (l : List Expr) (own : S) (nth : Int)
namespace Expr
def kind : Expr → Int | mk x _ _ _ _ _ _ _ _ => x
def num : Expr → Int | mk _ x _ _ _ _ _ _ _ => x
def text : Expr → S | mk _ _ x _ _ _ _ _ _ => x
def name : Expr → S | mk _ _ _ x _ _ _ _ _ => x
def type : Expr → S | mk _ _ _ _ x _ _ _ _ => x
def tl : Expr → Tg | mk _ _ _ _ _ x _ _ _ => x
def l : Expr → List Expr | mk _ _ _ _ _ _ x _ _ => x
def own : Expr → S | mk _ _ _ _ _ _ _ x _ => x
def nth : Expr → Int | mk _ _ _ _ _ _ _ _ x => x
end Expr
mutual
def Expr.cells : Expr → List AV
  | .mk kind num text name type tl l own nth => [.i .i64 kind, .i .i32 num, text.av, name.av, type.av, slA 8 tl (cellsL l), own.av, .i .i64 nth]
def cellsL : List Expr → List (List AV)
  | [] => []
  | x :: r => x.cells :: cellsL r
end
theorem cellsL_eq : ∀ l : List Expr, cellsL l = l.map Expr.cells
  | [] => by rw [cellsL]; rfl
  | e :: l => by rw [cellsL, cellsL_eq l]; rfl
abbrev Expr.av (x : Expr) : AV := .agg x.cells
namespace Expr
variable (x : Expr)
theorem cells_eq : x.cells = [.i .i64 x.kind, .i .i32 x.num, x.text.av, x.name.av, x.type.av, slA 8 x.tl (cellsL x.l), x.own.av, .i .i64 x.nth] := by cases x; rw [cells]; rfl
theorem c0 : lnth x.cells 0 = some (.i .i64 x.kind) := by rw [cells_eq]; rfl
theorem c1 : lnth x.cells 1 = some (.i .i32 x.num) := by rw [cells_eq]; rfl
theorem c2 : lnth x.cells 2 = some (x.text.av) := by rw [cells_eq]; rfl
theorem c3 : lnth x.cells 3 = some (x.name.av) := by rw [cells_eq]; rfl
theorem c4 : lnth x.cells 4 = some (x.type.av) := by rw [cells_eq]; rfl
theorem c5 : lnth x.cells 5 = some (slA 8 x.tl (cellsL x.l)) := by rw [cells_eq]; rfl
theorem c6 : lnth x.cells 6 = some (x.own.av) := by rw [cells_eq]; rfl
theorem c7 : lnth x.cells 7 = some (.i .i64 x.nth) := by rw [cells_eq]; rfl
theorem clen : x.cells.length = 8 := by rw [cells_eq]; rfl
theorem cllen : llen x.cells = 8 := by rw [llen_eq, clen]
theorem chas : lhas x.cells 8 = true := lhas_iff.2 x.clen
theorem cone : ∀ c ∈ x.cells, AV.one c = true := by
  intro c hc
  rw [x.cells_eq] at hc
  simp only [List.mem_cons, List.not_mem_nil, or_false] at hc
  rcases hc with rfl | rfl | rfl | rfl | rfl | rfl | rfl | rfl <;> first | rfl | exact one_sl
theorem cones : AV.ones x.cells = true := ones_all x.cone
theorem crefs (n : Nat) : ∀ c ∈ x.cells, Go.Zev.refs (n + 1) c = false := by
  intro c hc
  rw [x.cells_eq] at hc
  simp only [List.mem_cons, List.not_mem_nil, or_false] at hc
  rcases hc with rfl | rfl | rfl | rfl | rfl | rfl | rfl | rfl <;> first | rfl | exact refs_sl n
theorem cfrz (h : Heap) (n : Nat) : ∀ c ∈ x.cells, Go.Zev.frz h (n + 1) c = some c := by
  intro c hc
  rw [x.cells_eq] at hc
  simp only [List.mem_cons, List.not_mem_nil, or_false] at hc
  rcases hc with rfl | rfl | rfl | rfl | rfl | rfl | rfl | rfl <;> first | rfl | exact frz_sl h n
theorem refs (n : Nat) : Go.Zev.refs (n + 2) x.av = false := refs_agg (x.crefs n)
theorem frz (h : Heap) (n : Nat) : Go.Zev.frz h (n + 2) x.av = some x.av := frz_agg (x.cfrz h n)
end Expr
theorem cellsL_len (l : List Expr) : (cellsL l).length = l.length := by rw [cellsL_eq, List.length_map]
theorem cellsL_get {l : List Expr} {i : Nat} {x : Expr} (h : l[i]? = some x) : (cellsL l)[i]? = some x.cells := by rw [cellsL_eq, List.getElem?_map, h]; rfl
theorem cellsL_app (a b : List Expr) : cellsL (a ++ b) = cellsL a ++ cellsL b := by rw [cellsL_eq, cellsL_eq, cellsL_eq, List.map_append]
inductive Stmt where
  | mk (kind : Int) (num : Int) (type : S) (name : S) (te : Tg) (e : List Expr) (ta : Tg) (a : List Stmt) (tb : Tg) (b : List Stmt) (tc : Tg) (c : List Stmt) (nth : Int)
namespace Stmt
def kind : Stmt → Int | mk x _ _ _ _ _ _ _ _ _ _ _ _ => x
def num : Stmt → Int | mk _ x _ _ _ _ _ _ _ _ _ _ _ => x
def type : Stmt → S | mk _ _ x _ _ _ _ _ _ _ _ _ _ => x
def name : Stmt → S | mk _ _ _ x _ _ _ _ _ _ _ _ _ => x
def te : Stmt → Tg | mk _ _ _ _ x _ _ _ _ _ _ _ _ => x
def e : Stmt → List Expr | mk _ _ _ _ _ x _ _ _ _ _ _ _ => x
def ta : Stmt → Tg | mk _ _ _ _ _ _ x _ _ _ _ _ _ => x
def a : Stmt → List Stmt | mk _ _ _ _ _ _ _ x _ _ _ _ _ => x
def tb : Stmt → Tg | mk _ _ _ _ _ _ _ _ x _ _ _ _ => x
def b : Stmt → List Stmt | mk _ _ _ _ _ _ _ _ _ x _ _ _ => x
def tc : Stmt → Tg | mk _ _ _ _ _ _ _ _ _ _ x _ _ => x
def c : Stmt → List Stmt | mk _ _ _ _ _ _ _ _ _ _ _ x _ => x
def nth : Stmt → Int | mk _ _ _ _ _ _ _ _ _ _ _ _ x => x
end Stmt
mutual
def Stmt.cells : Stmt → List AV
  | .mk kind num type name te e ta a tb b tc c nth => [.i .i64 kind, .i .i32 num, type.av, name.av, slA 8 te (cellsL e), slA 9 ta (cellsT a), slA 9 tb (cellsT b), slA 9 tc (cellsT c), .i .i64 nth]
def cellsT : List Stmt → List (List AV)
  | [] => []
  | x :: r => x.cells :: cellsT r
end
theorem cellsT_eq : ∀ l : List Stmt, cellsT l = l.map Stmt.cells
  | [] => by rw [cellsT]; rfl
  | e :: l => by rw [cellsT, cellsT_eq l]; rfl
abbrev Stmt.av (x : Stmt) : AV := .agg x.cells
namespace Stmt
variable (x : Stmt)
theorem cells_eq : x.cells = [.i .i64 x.kind, .i .i32 x.num, x.type.av, x.name.av, slA 8 x.te (cellsL x.e), slA 9 x.ta (cellsT x.a), slA 9 x.tb (cellsT x.b), slA 9 x.tc (cellsT x.c), .i .i64 x.nth] := by cases x; rw [cells]; rfl
theorem c0 : lnth x.cells 0 = some (.i .i64 x.kind) := by rw [cells_eq]; rfl
theorem c1 : lnth x.cells 1 = some (.i .i32 x.num) := by rw [cells_eq]; rfl
theorem c2 : lnth x.cells 2 = some (x.type.av) := by rw [cells_eq]; rfl
theorem c3 : lnth x.cells 3 = some (x.name.av) := by rw [cells_eq]; rfl
theorem c4 : lnth x.cells 4 = some (slA 8 x.te (cellsL x.e)) := by rw [cells_eq]; rfl
theorem c5 : lnth x.cells 5 = some (slA 9 x.ta (cellsT x.a)) := by rw [cells_eq]; rfl
theorem c6 : lnth x.cells 6 = some (slA 9 x.tb (cellsT x.b)) := by rw [cells_eq]; rfl
theorem c7 : lnth x.cells 7 = some (slA 9 x.tc (cellsT x.c)) := by rw [cells_eq]; rfl
theorem c8 : lnth x.cells 8 = some (.i .i64 x.nth) := by rw [cells_eq]; rfl
theorem clen : x.cells.length = 9 := by rw [cells_eq]; rfl
theorem cllen : llen x.cells = 9 := by rw [llen_eq, clen]
theorem chas : lhas x.cells 9 = true := lhas_iff.2 x.clen
theorem cone : ∀ c ∈ x.cells, AV.one c = true := by
  intro c hc
  rw [x.cells_eq] at hc
  simp only [List.mem_cons, List.not_mem_nil, or_false] at hc
  rcases hc with rfl | rfl | rfl | rfl | rfl | rfl | rfl | rfl | rfl <;> first | rfl | exact one_sl
theorem cones : AV.ones x.cells = true := ones_all x.cone
theorem crefs (n : Nat) : ∀ c ∈ x.cells, Go.Zev.refs (n + 1) c = false := by
  intro c hc
  rw [x.cells_eq] at hc
  simp only [List.mem_cons, List.not_mem_nil, or_false] at hc
  rcases hc with rfl | rfl | rfl | rfl | rfl | rfl | rfl | rfl | rfl <;> first | rfl | exact refs_sl n
theorem cfrz (h : Heap) (n : Nat) : ∀ c ∈ x.cells, Go.Zev.frz h (n + 1) c = some c := by
  intro c hc
  rw [x.cells_eq] at hc
  simp only [List.mem_cons, List.not_mem_nil, or_false] at hc
  rcases hc with rfl | rfl | rfl | rfl | rfl | rfl | rfl | rfl | rfl <;> first | rfl | exact frz_sl h n
theorem refs (n : Nat) : Go.Zev.refs (n + 2) x.av = false := refs_agg (x.crefs n)
theorem frz (h : Heap) (n : Nat) : Go.Zev.frz h (n + 2) x.av = some x.av := frz_agg (x.cfrz h n)
end Stmt
theorem cellsT_len (l : List Stmt) : (cellsT l).length = l.length := by rw [cellsT_eq, List.length_map]
theorem cellsT_get {l : List Stmt} {i : Nat} {x : Stmt} (h : l[i]? = some x) : (cellsT l)[i]? = some x.cells := by rw [cellsT_eq, List.getElem?_map, h]; rfl
theorem cellsT_app (a b : List Stmt) : cellsT (a ++ b) = cellsT a ++ cellsT b := by rw [cellsT_eq, cellsT_eq, cellsT_eq, List.map_append]
inductive Fld where
  | mk (static : Bool) (type : S) (name : S) (tinit : Tg) (init : List Expr)
namespace Fld
def static : Fld → Bool | mk x _ _ _ _ => x
def type : Fld → S | mk _ x _ _ _ => x
def name : Fld → S | mk _ _ x _ _ => x
def tinit : Fld → Tg | mk _ _ _ x _ => x
def init : Fld → List Expr | mk _ _ _ _ x => x
end Fld
def Fld.cells : Fld → List AV
  | .mk static type name tinit init => [.b static, type.av, name.av, slA 8 tinit (cellsL init)]
def cellsFd (l : List Fld) : List (List AV) := l.map Fld.cells
theorem cellsFd_eq (l : List Fld) : cellsFd l = l.map Fld.cells := rfl
abbrev Fld.av (x : Fld) : AV := .agg x.cells
namespace Fld
variable (x : Fld)
theorem cells_eq : x.cells = [.b x.static, x.type.av, x.name.av, slA 8 x.tinit (cellsL x.init)] := by cases x; rw [cells]; rfl
theorem c0 : lnth x.cells 0 = some (.b x.static) := by rw [cells_eq]; rfl
theorem c1 : lnth x.cells 1 = some (x.type.av) := by rw [cells_eq]; rfl
theorem c2 : lnth x.cells 2 = some (x.name.av) := by rw [cells_eq]; rfl
theorem c3 : lnth x.cells 3 = some (slA 8 x.tinit (cellsL x.init)) := by rw [cells_eq]; rfl
theorem clen : x.cells.length = 4 := by rw [cells_eq]; rfl
theorem cllen : llen x.cells = 4 := by rw [llen_eq, clen]
theorem chas : lhas x.cells 4 = true := lhas_iff.2 x.clen
theorem cone : ∀ c ∈ x.cells, AV.one c = true := by
  intro c hc
  rw [x.cells_eq] at hc
  simp only [List.mem_cons, List.not_mem_nil, or_false] at hc
  rcases hc with rfl | rfl | rfl | rfl <;> first | rfl | exact one_sl
theorem cones : AV.ones x.cells = true := ones_all x.cone
theorem crefs (n : Nat) : ∀ c ∈ x.cells, Go.Zev.refs (n + 1) c = false := by
  intro c hc
  rw [x.cells_eq] at hc
  simp only [List.mem_cons, List.not_mem_nil, or_false] at hc
  rcases hc with rfl | rfl | rfl | rfl <;> first | rfl | exact refs_sl n
theorem cfrz (h : Heap) (n : Nat) : ∀ c ∈ x.cells, Go.Zev.frz h (n + 1) c = some c := by
  intro c hc
  rw [x.cells_eq] at hc
  simp only [List.mem_cons, List.not_mem_nil, or_false] at hc
  rcases hc with rfl | rfl | rfl | rfl <;> first | rfl | exact frz_sl h n
theorem refs (n : Nat) : Go.Zev.refs (n + 2) x.av = false := refs_agg (x.crefs n)
theorem frz (h : Heap) (n : Nat) : Go.Zev.frz h (n + 2) x.av = some x.av := frz_agg (x.cfrz h n)
end Fld
theorem cellsFd_len (l : List Fld) : (cellsFd l).length = l.length := by rw [cellsFd_eq, List.length_map]
theorem cellsFd_get {l : List Fld} {i : Nat} {x : Fld} (h : l[i]? = some x) : (cellsFd l)[i]? = some x.cells := by rw [cellsFd_eq, List.getElem?_map, h]; rfl
theorem cellsFd_app (a b : List Fld) : cellsFd (a ++ b) = cellsFd a ++ cellsFd b := by rw [cellsFd_eq, cellsFd_eq, cellsFd_eq, List.map_append]
inductive Par where
  | mk (type : S) (name : S)
namespace Par
def type : Par → S | mk x _ => x
def name : Par → S | mk _ x => x
end Par
def Par.cells : Par → List AV
  | .mk type name => [type.av, name.av]
def cellsP (l : List Par) : List (List AV) := l.map Par.cells
theorem cellsP_eq (l : List Par) : cellsP l = l.map Par.cells := rfl
abbrev Par.av (x : Par) : AV := .agg x.cells
namespace Par
variable (x : Par)
theorem cells_eq : x.cells = [x.type.av, x.name.av] := by cases x; rw [cells]; rfl
theorem c0 : lnth x.cells 0 = some (x.type.av) := by rw [cells_eq]; rfl
theorem c1 : lnth x.cells 1 = some (x.name.av) := by rw [cells_eq]; rfl
theorem clen : x.cells.length = 2 := by rw [cells_eq]; rfl
theorem cllen : llen x.cells = 2 := by rw [llen_eq, clen]
theorem chas : lhas x.cells 2 = true := lhas_iff.2 x.clen
theorem cone : ∀ c ∈ x.cells, AV.one c = true := by
  intro c hc
  rw [x.cells_eq] at hc
  simp only [List.mem_cons, List.not_mem_nil, or_false] at hc
  rcases hc with rfl | rfl <;> first | rfl | exact one_sl
theorem cones : AV.ones x.cells = true := ones_all x.cone
theorem crefs (n : Nat) : ∀ c ∈ x.cells, Go.Zev.refs (n + 1) c = false := by
  intro c hc
  rw [x.cells_eq] at hc
  simp only [List.mem_cons, List.not_mem_nil, or_false] at hc
  rcases hc with rfl | rfl <;> first | rfl | exact refs_sl n
theorem cfrz (h : Heap) (n : Nat) : ∀ c ∈ x.cells, Go.Zev.frz h (n + 1) c = some c := by
  intro c hc
  rw [x.cells_eq] at hc
  simp only [List.mem_cons, List.not_mem_nil, or_false] at hc
  rcases hc with rfl | rfl <;> first | rfl | exact frz_sl h n
theorem refs (n : Nat) : Go.Zev.refs (n + 2) x.av = false := refs_agg (x.crefs n)
theorem frz (h : Heap) (n : Nat) : Go.Zev.frz h (n + 2) x.av = some x.av := frz_agg (x.cfrz h n)
end Par
theorem cellsP_len (l : List Par) : (cellsP l).length = l.length := by rw [cellsP_eq, List.length_map]
theorem cellsP_get {l : List Par} {i : Nat} {x : Par} (h : l[i]? = some x) : (cellsP l)[i]? = some x.cells := by rw [cellsP_eq, List.getElem?_map, h]; rfl
theorem cellsP_app (a b : List Par) : cellsP (a ++ b) = cellsP a ++ cellsP b := by rw [cellsP_eq, cellsP_eq, cellsP_eq, List.map_append]
inductive Mth where
  | mk (static : Bool) (ctor : Bool) (type : S) (name : S) (tparams : Tg) (params : List Par) (tbody : Tg) (body : List Stmt)
namespace Mth
def static : Mth → Bool | mk x _ _ _ _ _ _ _ => x
def ctor : Mth → Bool | mk _ x _ _ _ _ _ _ => x
def type : Mth → S | mk _ _ x _ _ _ _ _ => x
def name : Mth → S | mk _ _ _ x _ _ _ _ => x
def tparams : Mth → Tg | mk _ _ _ _ x _ _ _ => x
def params : Mth → List Par | mk _ _ _ _ _ x _ _ => x
def tbody : Mth → Tg | mk _ _ _ _ _ _ x _ => x
def body : Mth → List Stmt | mk _ _ _ _ _ _ _ x => x
end Mth
def Mth.cells : Mth → List AV
  | .mk static ctor type name tparams params tbody body => [.b static, .b ctor, type.av, name.av, slA 2 tparams (cellsP params), slA 9 tbody (cellsT body)]
def cellsM (l : List Mth) : List (List AV) := l.map Mth.cells
theorem cellsM_eq (l : List Mth) : cellsM l = l.map Mth.cells := rfl
abbrev Mth.av (x : Mth) : AV := .agg x.cells
namespace Mth
variable (x : Mth)
theorem cells_eq : x.cells = [.b x.static, .b x.ctor, x.type.av, x.name.av, slA 2 x.tparams (cellsP x.params), slA 9 x.tbody (cellsT x.body)] := by cases x; rw [cells]; rfl
theorem c0 : lnth x.cells 0 = some (.b x.static) := by rw [cells_eq]; rfl
theorem c1 : lnth x.cells 1 = some (.b x.ctor) := by rw [cells_eq]; rfl
theorem c2 : lnth x.cells 2 = some (x.type.av) := by rw [cells_eq]; rfl
theorem c3 : lnth x.cells 3 = some (x.name.av) := by rw [cells_eq]; rfl
theorem c4 : lnth x.cells 4 = some (slA 2 x.tparams (cellsP x.params)) := by rw [cells_eq]; rfl
theorem c5 : lnth x.cells 5 = some (slA 9 x.tbody (cellsT x.body)) := by rw [cells_eq]; rfl
theorem clen : x.cells.length = 6 := by rw [cells_eq]; rfl
theorem cllen : llen x.cells = 6 := by rw [llen_eq, clen]
theorem chas : lhas x.cells 6 = true := lhas_iff.2 x.clen
theorem cone : ∀ c ∈ x.cells, AV.one c = true := by
  intro c hc
  rw [x.cells_eq] at hc
  simp only [List.mem_cons, List.not_mem_nil, or_false] at hc
  rcases hc with rfl | rfl | rfl | rfl | rfl | rfl <;> first | rfl | exact one_sl
theorem cones : AV.ones x.cells = true := ones_all x.cone
theorem crefs (n : Nat) : ∀ c ∈ x.cells, Go.Zev.refs (n + 1) c = false := by
  intro c hc
  rw [x.cells_eq] at hc
  simp only [List.mem_cons, List.not_mem_nil, or_false] at hc
  rcases hc with rfl | rfl | rfl | rfl | rfl | rfl <;> first | rfl | exact refs_sl n
theorem cfrz (h : Heap) (n : Nat) : ∀ c ∈ x.cells, Go.Zev.frz h (n + 1) c = some c := by
  intro c hc
  rw [x.cells_eq] at hc
  simp only [List.mem_cons, List.not_mem_nil, or_false] at hc
  rcases hc with rfl | rfl | rfl | rfl | rfl | rfl <;> first | rfl | exact frz_sl h n
theorem refs (n : Nat) : Go.Zev.refs (n + 2) x.av = false := refs_agg (x.crefs n)
theorem frz (h : Heap) (n : Nat) : Go.Zev.frz h (n + 2) x.av = some x.av := frz_agg (x.cfrz h n)
end Mth
theorem cellsM_len (l : List Mth) : (cellsM l).length = l.length := by rw [cellsM_eq, List.length_map]
theorem cellsM_get {l : List Mth} {i : Nat} {x : Mth} (h : l[i]? = some x) : (cellsM l)[i]? = some x.cells := by rw [cellsM_eq, List.getElem?_map, h]; rfl
theorem cellsM_app (a b : List Mth) : cellsM (a ++ b) = cellsM a ++ cellsM b := by rw [cellsM_eq, cellsM_eq, cellsM_eq, List.map_append]
inductive Cls where
  | mk (name : S) (super : S) (tfields : Tg) (fields : List Fld) (tmethods : Tg) (methods : List Mth)
namespace Cls
def name : Cls → S | mk x _ _ _ _ _ => x
def super : Cls → S | mk _ x _ _ _ _ => x
def tfields : Cls → Tg | mk _ _ x _ _ _ => x
def fields : Cls → List Fld | mk _ _ _ x _ _ => x
def tmethods : Cls → Tg | mk _ _ _ _ x _ => x
def methods : Cls → List Mth | mk _ _ _ _ _ x => x
end Cls
def Cls.cells : Cls → List AV
  | .mk name super tfields fields tmethods methods => [name.av, super.av, slA 4 tfields (cellsFd fields), slA 6 tmethods (cellsM methods)]
def cellsC (l : List Cls) : List (List AV) := l.map Cls.cells
theorem cellsC_eq (l : List Cls) : cellsC l = l.map Cls.cells := rfl
abbrev Cls.av (x : Cls) : AV := .agg x.cells
namespace Cls
variable (x : Cls)
theorem cells_eq : x.cells = [x.name.av, x.super.av, slA 4 x.tfields (cellsFd x.fields), slA 6 x.tmethods (cellsM x.methods)] := by cases x; rw [cells]; rfl
theorem c0 : lnth x.cells 0 = some (x.name.av) := by rw [cells_eq]; rfl
theorem c1 : lnth x.cells 1 = some (x.super.av) := by rw [cells_eq]; rfl
theorem c2 : lnth x.cells 2 = some (slA 4 x.tfields (cellsFd x.fields)) := by rw [cells_eq]; rfl
theorem c3 : lnth x.cells 3 = some (slA 6 x.tmethods (cellsM x.methods)) := by rw [cells_eq]; rfl
theorem clen : x.cells.length = 4 := by rw [cells_eq]; rfl
theorem cllen : llen x.cells = 4 := by rw [llen_eq, clen]
theorem chas : lhas x.cells 4 = true := lhas_iff.2 x.clen
theorem cone : ∀ c ∈ x.cells, AV.one c = true := by
  intro c hc
  rw [x.cells_eq] at hc
  simp only [List.mem_cons, List.not_mem_nil, or_false] at hc
  rcases hc with rfl | rfl | rfl | rfl <;> first | rfl | exact one_sl
theorem cones : AV.ones x.cells = true := ones_all x.cone
theorem crefs (n : Nat) : ∀ c ∈ x.cells, Go.Zev.refs (n + 1) c = false := by
  intro c hc
  rw [x.cells_eq] at hc
  simp only [List.mem_cons, List.not_mem_nil, or_false] at hc
  rcases hc with rfl | rfl | rfl | rfl <;> first | rfl | exact refs_sl n
theorem cfrz (h : Heap) (n : Nat) : ∀ c ∈ x.cells, Go.Zev.frz h (n + 1) c = some c := by
  intro c hc
  rw [x.cells_eq] at hc
  simp only [List.mem_cons, List.not_mem_nil, or_false] at hc
  rcases hc with rfl | rfl | rfl | rfl <;> first | rfl | exact frz_sl h n
theorem refs (n : Nat) : Go.Zev.refs (n + 2) x.av = false := refs_agg (x.crefs n)
theorem frz (h : Heap) (n : Nat) : Go.Zev.frz h (n + 2) x.av = some x.av := frz_agg (x.cfrz h n)
end Cls
theorem cellsC_len (l : List Cls) : (cellsC l).length = l.length := by rw [cellsC_eq, List.length_map]
theorem cellsC_get {l : List Cls} {i : Nat} {x : Cls} (h : l[i]? = some x) : (cellsC l)[i]? = some x.cells := by rw [cellsC_eq, List.getElem?_map, h]; rfl
theorem cellsC_app (a b : List Cls) : cellsC (a ++ b) = cellsC a ++ cellsC b := by rw [cellsC_eq, cellsC_eq, cellsC_eq, List.map_append]
inductive Prg where
  | mk (tclasses : Tg) (classes : List Cls)
namespace Prg
def tclasses : Prg → Tg | mk x _ => x
def classes : Prg → List Cls | mk _ x => x
end Prg
def Prg.cells : Prg → List AV
  | .mk tclasses classes => [slA 4 tclasses (cellsC classes)]
abbrev Prg.av (x : Prg) : AV := .agg x.cells
namespace Prg
variable (x : Prg)
theorem cells_eq : x.cells = [slA 4 x.tclasses (cellsC x.classes)] := by cases x; rw [cells]; rfl
theorem c0 : lnth x.cells 0 = some (slA 4 x.tclasses (cellsC x.classes)) := by rw [cells_eq]; rfl
theorem clen : x.cells.length = 1 := by rw [cells_eq]; rfl
theorem cllen : llen x.cells = 1 := by rw [llen_eq, clen]
theorem chas : lhas x.cells 1 = true := lhas_iff.2 x.clen
theorem cone : ∀ c ∈ x.cells, AV.one c = true := by
  intro c hc
  rw [x.cells_eq] at hc
  simp only [List.mem_cons, List.not_mem_nil, or_false] at hc
  subst hc
  first | rfl | exact one_sl
theorem cones : AV.ones x.cells = true := ones_all x.cone
theorem crefs (n : Nat) : ∀ c ∈ x.cells, Go.Zev.refs (n + 1) c = false := by
  intro c hc
  rw [x.cells_eq] at hc
  simp only [List.mem_cons, List.not_mem_nil, or_false] at hc
  subst hc
  first | rfl | exact refs_sl n
theorem cfrz (h : Heap) (n : Nat) : ∀ c ∈ x.cells, Go.Zev.frz h (n + 1) c = some c := by
  intro c hc
  rw [x.cells_eq] at hc
  simp only [List.mem_cons, List.not_mem_nil, or_false] at hc
  subst hc
  first | rfl | exact frz_sl h n
theorem refs (n : Nat) : Go.Zev.refs (n + 2) x.av = false := refs_agg (x.crefs n)
theorem frz (h : Heap) (n : Nat) : Go.Zev.frz h (n + 2) x.av = some x.av := frz_agg (x.cfrz h n)
end Prg
theorem take_succ_get {α : Type} {l : List α} {i : Nat} {x : α} (h : l[i]? = some x) : l.take (i + 1) = l.take i ++ [x] := by
  rw [List.take_add_one, h]; rfl
theorem get_some {α : Type} {l : List α} {i : Nat} (h : i < l.length) : ∃ x, l[i]? = some x ∧ x ∈ l := ⟨l[i], List.getElem?_eq_getElem h, List.getElem_mem h⟩
theorem Expr.ind {p : Expr → Prop} (h : ∀ e, (∀ c ∈ e.l, p c) → p e) : ∀ e, p e
  | .mk k n t nm ty tg l o nt => h _ fun c hc => Expr.ind h c
termination_by e => SizeOf.sizeOf e
decreasing_by
  have := List.sizeOf_lt_of_mem hc
  simp only [Expr.l] at this
  simp
  omega
theorem Stmt.ind {p : Stmt → Prop} (h : ∀ s, (∀ c ∈ s.a, p c) → (∀ c ∈ s.b, p c) → (∀ c ∈ s.c, p c) → p s) : ∀ s, p s
  | .mk k n ty nm te e ta a tb b tc c nt => h _ (fun x hx => Stmt.ind h x) (fun x hx => Stmt.ind h x) (fun x hx => Stmt.ind h x)
termination_by s => SizeOf.sizeOf s
decreasing_by
  all_goals
    have := List.sizeOf_lt_of_mem hx
    simp only [Stmt.a, Stmt.b, Stmt.c] at this
    simp
    omega
/-! Sizes. -/
mutual
def Expr.size : Expr → Nat
  | .mk _ _ _ _ _ _ l _ _ => 1 + sizeL l
def sizeL : List Expr → Nat
  | [] => 0
  | e :: l => e.size + sizeL l
end
theorem Expr.size_eq (e : Expr) : e.size = 1 + sizeL e.l := by cases e; rw [Expr.size]; rfl
@[simp] theorem sizeL_nil : sizeL [] = 0 := by rw [sizeL]
@[simp] theorem sizeL_cons (e : Expr) (l : List Expr) : sizeL (e :: l) = e.size + sizeL l := by rw [sizeL]
mutual
def Stmt.size : Stmt → Nat
  | .mk _ _ _ _ _ e _ a _ b _ c _ => 1 + sizeL e + sizeT a + sizeT b + sizeT c
def sizeT : List Stmt → Nat
  | [] => 0
  | e :: l => e.size + sizeT l
end
theorem Stmt.size_eq (s : Stmt) : s.size = 1 + sizeL s.e + sizeT s.a + sizeT s.b + sizeT s.c := by cases s; rw [Stmt.size]; rfl
@[simp] theorem sizeT_nil : sizeT [] = 0 := by rw [sizeT]
@[simp] theorem sizeT_cons (e : Stmt) (l : List Stmt) : sizeT (e :: l) = e.size + sizeT l := by rw [sizeT]
theorem Expr.size_pos (e : Expr) : 1 ≤ e.size := by rw [e.size_eq]; omega
theorem Stmt.size_pos (e : Stmt) : 1 ≤ e.size := by rw [e.size_eq]; omega
theorem sizeL_app (a b : List Expr) : sizeL (a ++ b) = sizeL a + sizeL b := by
  induction a with
  | nil => simp
  | cons x a ih => rw [List.cons_append, sizeL_cons, sizeL_cons, ih]; omega
theorem sizeL_mem {e : Expr} {l : List Expr} (h : e ∈ l) : e.size ≤ sizeL l := by
  induction l with
  | nil => cases h
  | cons x l ih =>
    rw [sizeL_cons]
    rcases List.mem_cons.1 h with rfl | h
    · omega
    · have := ih h; omega
theorem sizeL_len (l : List Expr) : l.length ≤ sizeL l := by
  induction l with
  | nil => simp
  | cons x l ih => rw [sizeL_cons, List.length_cons]; have := x.size_pos; omega
theorem sizeL_take {l : List Expr} {i : Nat} {e : Expr} (h : l[i]? = some e) : sizeL (l.take (i + 1)) = sizeL (l.take i) + e.size := by
  rw [take_succ_get h, sizeL_app, sizeL_cons, sizeL_nil]; omega
theorem sizeL_take_le (l : List Expr) (i : Nat) : sizeL (l.take i) ≤ sizeL l := by
  conv => rhs; rw [← List.take_append_drop i l, sizeL_app]
  omega
theorem sizeT_app (a b : List Stmt) : sizeT (a ++ b) = sizeT a + sizeT b := by
  induction a with
  | nil => simp
  | cons x a ih => rw [List.cons_append, sizeT_cons, sizeT_cons, ih]; omega
theorem sizeT_mem {e : Stmt} {l : List Stmt} (h : e ∈ l) : e.size ≤ sizeT l := by
  induction l with
  | nil => cases h
  | cons x l ih =>
    rw [sizeT_cons]
    rcases List.mem_cons.1 h with rfl | h
    · omega
    · have := ih h; omega
theorem sizeT_len (l : List Stmt) : l.length ≤ sizeT l := by
  induction l with
  | nil => simp
  | cons x l ih => rw [sizeT_cons, List.length_cons]; have := x.size_pos; omega
theorem sizeT_take {l : List Stmt} {i : Nat} {e : Stmt} (h : l[i]? = some e) : sizeT (l.take (i + 1)) = sizeT (l.take i) + e.size := by
  rw [take_succ_get h, sizeT_app, sizeT_cons, sizeT_nil]; omega
theorem sizeT_take_le (l : List Stmt) (i : Nat) : sizeT (l.take i) ≤ sizeT l := by
  conv => rhs; rw [← List.take_append_drop i l, sizeT_app]
  omega
end Go.Zev

/-
  General proofs: what a law is handed (plain data: numbers, texts, structs, slices of them) as the evaluator's values.
-/
set_option linter.unusedVariables false
namespace Go.Zev
open Go
theorem mapM_some {α β : Type} {f : α → Option β} : ∀ {l : List α} {r : List β}, l.mapM f = some r → r.length = l.length ∧ ∀ (i : Nat) (x : α), l[i]? = some x → ∃ y, r[i]? = some y ∧ f x = some y
  | [], r, h => by
    simp at h
    subst h
    exact ⟨rfl, fun i x hx => by simp at hx⟩
  | a :: l, r, h => by
    rw [List.mapM_cons] at h
    cases hf : f a with
    | none => rw [hf] at h; simp at h
    | some y =>
      rw [hf] at h
      cases hr : l.mapM f with
      | none => rw [hr] at h; simp at h
      | some ys =>
        rw [hr] at h
        simp at h
        subst h
        obtain ⟨h1, h2⟩ := mapM_some hr
        refine ⟨by simp [h1], fun i x hx => ?_⟩
        cases i with
        | zero => simp at hx; subst hx; exact ⟨y, rfl, hf⟩
        | succ i => simp at hx; obtain ⟨z, hz, hz2⟩ := h2 i x hx; exact ⟨z, by simpa using hz, hz2⟩
theorem cell_spot {w : World} {a : Addr} {v : Value} (h : w.cell? a = some v) : a.spot = none := by
  unfold World.cell? at h
  split at h
  · cases hs : a.spot with
    | none => rfl
    | some s => rw [hs] at h; simp at h
  · cases h
theorem add_at (a : Addr) (m : Nat) : (a.add m).block = a.block ∧ (a.add m).off = a.off + m := by
  unfold Addr.add
  split
  · rename_i h; subst h; exact ⟨rfl, rfl⟩
  · exact ⟨rfl, rfl⟩
theorem addr_eq {a : Addr} (h : a.spot = none) : a = ⟨a.block, a.off, none⟩ := by cases a; simp at h; subst h; rfl
theorem cells_at {w : World} {a : Addr} {n : Nat} {vs : List Value} (h : w.cells? 0 a n = some vs) : vs.length = n ∧ ∀ (i : Nat) (v : Value), vs[i]? = some v → w.cell? ⟨a.block, a.off + i, none⟩ = some v := by
  unfold World.cells? at h
  rw [if_pos (Nat.zero_le _)] at h
  obtain ⟨h1, h2⟩ := mapM_some h
  rw [List.length_range] at h1
  refine ⟨h1, fun i v hv => ?_⟩
  have hi : i < n := by rw [← h1]; exact (List.getElem?_eq_some_iff.1 hv).1
  obtain ⟨y, hy, hy2⟩ := h2 i i (by rw [List.getElem?_range hi])
  rw [hv] at hy
  injection hy with hy
  subst hy
  have hs := cell_spot hy2
  rw [addr_eq hs] at hy2
  rw [(add_at a i).1, (add_at a i).2] at hy2
  exact hy2
section
variable {w : World}
theorem FCells_of {b : Nat} : ∀ {cs : List AV} {vs : List Value} {off : Nat}, FReps w noBad cs vs → (∀ (i : Nat) (v : Value), vs[i]? = some v → w.cell? ⟨b, off + i, none⟩ = some v) → FCells w noBad b off cs
  | [], _, _, _, _ => by rw [FCells]; trivial
  | c :: cs, vs, off, hf, hc => by
    rw [FReps] at hf
    obtain ⟨u, us, rfl, h1, h2⟩ := hf
    rw [FCells]
    refine ⟨⟨u, hc 0 u rfl, fun h => h, h1⟩, FCells_of h2 fun i v hv => ?_⟩
    have := hc (i + 1) v (by simpa using hv)
    rwa [show off + (i + 1) = off + 1 + i by omega] at this
theorem FReps_len : ∀ {cs : List AV} {vs : List Value}, FReps w noBad cs vs → cs.length = vs.length
  | [], vs, h => by rw [FReps] at h; subst h; rfl
  | c :: cs, vs, h => by
    rw [FReps] at h
    obtain ⟨u, us, rfl, h1, h2⟩ := h
    rw [List.length_cons, List.length_cons, FReps_len h2]
theorem FEls_of {b sz : Nat} : ∀ {el : List (List AV)} {off : Nat}, (∀ (j : Nat) (e : List AV), el[j]? = some e → ∃ vs : List Value, vs.length = sz ∧ FReps w noBad e vs ∧ ∀ (i : Nat) (v : Value), vs[i]? = some v → w.cell? ⟨b, off + j * sz + i, none⟩ = some v) → FEls w noBad sz b off el
  | [], _, _ => by rw [FEls]; trivial
  | e :: el, off, h => by
    rw [FEls]
    obtain ⟨vs, h1, h2, h3⟩ := h 0 e rfl
    refine ⟨⟨by rw [FReps_len h2, h1], FCells_of h2 fun i v hv => by have := h3 i v hv; rwa [show off + 0 * sz + i = off + i by omega] at this⟩, FEls_of fun j x hx => ?_⟩
    obtain ⟨vs, h1, h2, h3⟩ := h (j + 1) x (by simpa using hx)
    refine ⟨vs, h1, h2, fun i v hv => ?_⟩
    have := h3 i v hv
    rwa [show off + (j + 1) * sz + i = off + sz + j * sz + i by rw [Nat.add_mul]; omega] at this

/-- Types of plain data: all that a type of 'G' is made of is of 'G'; a struct's fields fill a cell each. -/
def Plain (P : Program) (G : TypeId → Bool) : Prop := ∀ t, G t = true → match P.underlying t with
  | some .bool | some (.int _) | some .string => True
  | some (.slice e) => G e = true ∧ 0 < P.cellsOf e
  | some (.struct fs) => P.cellsOf t = fs.size ∧ ∀ (i : Nat) (f : Field), fs[i]? = some f → f.offset = i ∧ P.cellsOf f.type = 1 ∧ G f.type = true
  | _ => False
/-- Cells of a type, to a depth. -/
def Shp (P : Program) : Nat → TypeId → List AV → Prop
  | 0, _, _ => False
  | n + 1, t, cs => match P.underlying t with
    | some .bool => ∃ q, cs = [.b q]
    | some (.int k) => ∃ z, cs = [.i k z] ∧ (Lit.int k z).wf = true
    | some .string => ∃ s : S, cs = [s.av] ∧ s.len ≤ maxLen
    | some (.slice e) => ∃ (g : Tg) (el : List (List AV)), cs = [slA (P.cellsOf e) g el] ∧ el.length ≤ maxLen ∧ ∀ x ∈ el, Shp P n e x
    | some (.struct fs) => cs.length = fs.size ∧ ∀ (i : Nat) (f : Field) (c : AV), fs[i]? = some f → cs[i]? = some c → Shp P n f.type [c]
    | _ => False
variable {H : Type} {enc : TypeId × Value → H} {P : Program} {G : TypeId → Bool}
theorem choose_list {α β : Type} {p : Nat → α → β → Prop} : ∀ (l : List α), (∀ (i : Nat) (x : α), l[i]? = some x → ∃ y, p i x y) → ∃ r : List β, r.length = l.length ∧ ∀ (i : Nat) (x : α) (y : β), l[i]? = some x → r[i]? = some y → p i x y
  | [], _ => ⟨[], rfl, fun i x y hx _ => by simp at hx⟩
  | a :: l, h => by
    obtain ⟨y, hy⟩ := h 0 a rfl
    obtain ⟨r, h1, h2⟩ := choose_list (p := fun i x y => p (i + 1) x y) l fun i x hx => h (i + 1) x (by simpa using hx)
    refine ⟨y :: r, by simp [h1], fun i x z hx hz => ?_⟩
    cases i with
    | zero => simp at hx hz; subst hx hz; exact hy
    | succ i => simp at hx hz; exact h2 i x z hx hz
theorem FReps_of : ∀ {cs : List AV} {vs : List Value}, cs.length = vs.length → (∀ (i : Nat) (c : AV) (v : Value), cs[i]? = some c → vs[i]? = some v → FRep w noBad c v) → FReps w noBad cs vs
  | [], [], _, _ => by rw [FReps]
  | c :: cs, v :: vs, hl, h => by
    rw [FReps]
    exact ⟨v, vs, rfl, h 0 c v rfl rfl, FReps_of (by simpa using hl) fun i c v hc hv => h (i + 1) c v (by simpa using hc) (by simpa using hv)⟩
theorem trod_F (hG : Plain P G) : ∀ (n : Nat) (t : TypeId) (vs : List Value) (d : DataW H) (ps : List MemPlace), G t = true → DataW.trod enc P w 0 (fun _ => true) true n t vs = some (d, ps) → ∃ cs, FReps w noBad cs vs ∧ Shp P n t cs
  | 0, _, _, _, _, _, h => by rw [DataW.trod] at h; cases h
  | n + 1, t, vs, d, ps, ht, h => by
    have hp := hG t ht
    unfold DataW.trod at h
    unfold Shp
    cases hu : P.underlying t with
    | none => rw [hu] at hp; exact hp.elim
    | some D =>
      rw [hu] at hp h
      cases D with
      | bool =>
        cases vs with
        | nil => cases h
        | cons v r =>
          cases r with
          | cons _ _ => cases v <;> cases h
          | nil =>
            cases v <;> try (cases h; done)
            rename_i q
            exact ⟨[.b q], by rw [FReps]; exact ⟨_, [], rfl, by rw [FRep], by rw [FReps]⟩, q, rfl⟩
      | int k =>
        cases vs with
        | nil => cases h
        | cons v r =>
          cases r with
          | cons _ _ => cases v <;> cases h
          | nil =>
            cases v <;> try (cases h; done)
            rename_i k' z
            dsimp only at h
            split at h
            · rename_i hk
              obtain ⟨rfl, hw⟩ := hk
              exact ⟨[.i k' z], by rw [FReps]; exact ⟨_, [], rfl, by rw [FRep], by rw [FReps]⟩, z, rfl, hw⟩
            · cases h
      | string =>
        cases vs with
        | nil => cases h
        | cons v r =>
          cases r with
          | cons _ _ => cases v <;> cases h
          | nil =>
            cases v <;> try (cases h; done)
            rename_i q
            dsimp only at h
            split at h
            · rename_i hk
              exact ⟨[(S.mk q.size (code q.data.toList)).av], by rw [FReps]; exact ⟨_, [], rfl, by rw [FRep]; exact ⟨q, rfl, rfl, rfl⟩, by rw [FReps]⟩, _, rfl, hk⟩
            · cases h
      | slice e =>
        obtain ⟨he, hpos⟩ := hp
        cases vs with
        | nil => cases h
        | cons v r =>
          cases r with
          | cons _ _ => cases v <;> first | (cases h; done) | (rename_i a x y; cases a <;> first | (cases h; done) | (cases x <;> cases y <;> cases h))
          | nil =>
            cases v <;> try (cases h; done)
            rename_i a len cap
            cases a with
            | none =>
              cases len <;> cases cap <;> try (cases h; done)
              exact ⟨[.nsl], by rw [FReps]; exact ⟨_, [], rfl, by rw [FRep], by rw [FReps]⟩, .nil, [], rfl, by simp [maxLen], fun x hx => by cases hx⟩
            | some a =>
              dsimp only at h
              split at h
              · rename_i hk
                obtain ⟨-, hlc, hcm⟩ := hk
                cases hm : (List.range len).mapM (fun i => (w.cells? 0 (a.add (i * P.cellsOf e)) (P.cellsOf e)).bind (DataW.trod enc P w 0 (fun _ => true) true n e)) with
                | none => rw [hm] at h; cases h
                | some ds =>
                  obtain ⟨h1, h2⟩ := mapM_some hm
                  rw [List.length_range] at h1
                  have key : ∀ (i : Nat) (j : Nat), (List.range len)[i]? = some j → ∃ cs : List AV, Shp P n e cs ∧ ∃ us : List Value, us.length = P.cellsOf e ∧ FReps w noBad cs us ∧ ∀ (q : Nat) (v : Value), us[q]? = some v → w.cell? ⟨a.block, a.off + i * P.cellsOf e + q, none⟩ = some v := by
                    intro i j hj
                    have hi : i < len := by have := (List.getElem?_eq_some_iff.1 hj).1; simpa using this
                    have : j = i := by rw [List.getElem?_range hi] at hj; injection hj with hj; exact hj.symm
                    subst this
                    obtain ⟨y, hy, hf⟩ := h2 j j hj
                    cases hc : w.cells? 0 (a.add (j * P.cellsOf e)) (P.cellsOf e) with
                    | none => rw [hc] at hf; cases hf
                    | some us =>
                      rw [hc] at hf
                      obtain ⟨g1, g2⟩ := cells_at hc
                      obtain ⟨cs, g3, g4⟩ := trod_F hG n e us y.1 y.2 he hf
                      refine ⟨cs, g4, us, g1, g3, fun q v hv => ?_⟩
                      have := g2 q v hv
                      rwa [(add_at a _).1, (add_at a _).2] at this
                  obtain ⟨el, e1, e2⟩ := choose_list (List.range len) key
                  rw [List.length_range] at e1
                  have hel : ∀ (i : Nat) (x : List AV), el[i]? = some x → Shp P n e x ∧ ∃ us : List Value, us.length = P.cellsOf e ∧ FReps w noBad x us ∧ ∀ (q : Nat) (v : Value), us[q]? = some v → w.cell? ⟨a.block, a.off + i * P.cellsOf e + q, none⟩ = some v := by
                    intro i x hx
                    have hi : i < len := by rw [← e1]; exact (List.getElem?_eq_some_iff.1 hx).1
                    exact e2 i i x (by rw [List.getElem?_range hi]) hx
                  refine ⟨[.fs (P.cellsOf e) false el], ?_, .fs, el, by cases el <;> rfl, by rw [e1]; exact Nat.le_trans hlc hcm, fun x hx => ?_⟩
                  · rw [FReps]
                    refine ⟨_, [], rfl, ?_, by rw [FReps]⟩
                    rw [FRep]
                    refine ⟨some a, cap, by rw [e1], by omega, (fun hf => absurd hf (by simp)), fun hne => ?_⟩
                    obtain ⟨x, r, rfl⟩ : ∃ x r, el = x :: r := by cases el with | nil => exact absurd rfl hne | cons x r => exact ⟨x, r, rfl⟩
                    have hsp : a.spot = none := by
                      have hl0 : 0 < len := by rw [← e1]; simp
                      obtain ⟨y, hy, hf⟩ := h2 0 0 (by rw [List.getElem?_range hl0])
                      cases hc : w.cells? 0 (a.add (0 * P.cellsOf e)) (P.cellsOf e) with
                      | none => rw [hc] at hf; cases hf
                      | some us =>
                        unfold World.cells? at hc
                        rw [if_pos (Nat.zero_le _)] at hc
                        obtain ⟨g1, g2⟩ := mapM_some hc
                        obtain ⟨z, hz, hz2⟩ := g2 0 0 (by rw [List.getElem?_range hpos])
                        have := cell_spot hz2
                        simp [Addr.add] at this
                        exact this
                    exact ⟨a.block, a.off, by rw [← addr_eq hsp], FEls_of fun j x hx => (hel j x hx).2⟩
                  · obtain ⟨i, hi⟩ := List.getElem?_of_mem hx
                    exact (hel i x hi).1
              · cases h
      | struct fs =>
        obtain ⟨hsz, hfs⟩ := hp
        have h' : (if vs.length = P.cellsOf t then (fs.toList.mapM fun f => DataW.trod enc P w 0 (fun _ => true) true n f.type ((vs.drop f.offset).take (P.cellsOf f.type))).map fun xs => (DataW.agg (xs.map (·.1)), xs.flatMap (·.2)) else none) = some (d, ps) := by
          cases vs with
          | nil => exact h
          | cons v r => cases v <;> exact h
        split at h'
        · rename_i hvl
          cases hm : fs.toList.mapM (fun f => DataW.trod enc P w 0 (fun _ => true) true n f.type ((vs.drop f.offset).take (P.cellsOf f.type))) with
          | none => rw [hm] at h'; cases h'
          | some ds =>
            obtain ⟨h1, h2⟩ := mapM_some hm
            have key : ∀ (i : Nat) (f : Field), fs.toList[i]? = some f → ∃ c : AV, Shp P n f.type [c] ∧ ∀ v, vs[i]? = some v → FRep w noBad c v := by
              intro i f hf
              have hf' : fs[i]? = some f := by simpa using hf
              obtain ⟨ho, hc, hg⟩ := hfs i f hf'
              obtain ⟨y, hy, hq⟩ := h2 i f hf
              obtain ⟨cs, g1, g2⟩ := trod_F hG n f.type _ y.1 y.2 hg hq
              have hi : i < vs.length := by
                rw [hvl, hsz]
                exact (Array.getElem?_eq_some_iff.1 hf').1
              have hv : (vs.drop f.offset).take (P.cellsOf f.type) = [vs[i]] := by
                rw [hc, ho, List.drop_eq_getElem_cons hi]
                rfl
              rw [hv] at g1
              have hl := FReps_len g1
              obtain ⟨c, rfl⟩ : ∃ c, cs = [c] := by
                cases cs with
                | nil => simp at hl
                | cons c r => cases r with | nil => exact ⟨c, rfl⟩ | cons _ _ => simp at hl
              rw [FReps] at g1
              obtain ⟨u, us, he, h3, _⟩ := g1
              injection he with he _
              refine ⟨c, g2, fun v hv2 => ?_⟩
              have : vs[i] = v := by rw [List.getElem?_eq_getElem hi] at hv2; injection hv2
              rw [← this, he]
              exact h3
            obtain ⟨cs, e1, e2⟩ := choose_list fs.toList key
            have hlen : cs.length = vs.length := by rw [e1, hvl, hsz]; simp
            refine ⟨cs, FReps_of hlen fun i c v hc hv => ?_, by rw [e1]; simp, fun i f c hf hc => (e2 i f c (by simpa using hf) hc).1⟩
            have hi : i < fs.toList.length := by rw [← e1]; exact (List.getElem?_eq_some_iff.1 hc).1
            exact (e2 i _ c (List.getElem?_eq_getElem hi) hc).2 v hv
        · cases h'
      | _ => exact hp.elim
end
end Go.Zev

/-
  General proofs: when two expressions, statements are the same.
-/
set_option linter.unusedVariables false
namespace Go.Zev
open Go
/-- Two lists, element by element. -/
def allS {α β : Type} (p : α → β → Bool) : List α → List β → Bool
  | [], [] => true
  | a :: l, b :: r => p a b && allS p l r
  | _, _ => false
section
variable {α β : Type} {p : α → β → Bool}
theorem allS_iff : ∀ {l : List α} {r : List β}, allS p l r = true ↔ l.length = r.length ∧ ∀ (i : Nat) (a : α) (b : β), l[i]? = some a → r[i]? = some b → p a b = true
  | [], [] => ⟨fun _ => ⟨rfl, fun i a b h => by simp at h⟩, fun _ => rfl⟩
  | [], b :: r => ⟨fun h => by simp [allS] at h, fun h => by simp at h⟩
  | a :: l, [] => ⟨fun h => by simp [allS] at h, fun h => by simp at h⟩
  | a :: l, b :: r => by
    rw [allS, Bool.and_eq_true, allS_iff (l := l) (r := r)]
    constructor
    · rintro ⟨h1, h2, h3⟩
      refine ⟨by simp [h2], fun i x y hx hy => ?_⟩
      cases i with
      | zero => simp at hx hy; subst hx hy; exact h1
      | succ i => simp at hx hy; exact h3 i x y hx hy
    · rintro ⟨h1, h2⟩
      exact ⟨h2 0 a b rfl rfl, by simpa using h1, fun i x y hx hy => h2 (i + 1) x y (by simpa using hx) (by simpa using hy)⟩
theorem allS_true {l : List α} {r : List β} (h1 : l.length = r.length) (h2 : ∀ (i : Nat) (a : α) (b : β), i < l.length → l[i]? = some a → r[i]? = some b → p a b = true) : true = allS p l r :=
  (allS_iff.2 ⟨h1, fun i a b ha hb => h2 i a b (List.getElem?_eq_some_iff.1 ha).1 ha hb⟩).symm
theorem allS_false {l : List α} {r : List β} {i : Nat} {a : α} {b : β} (ha : l[i]? = some a) (hb : r[i]? = some b) (h : p a b = false) : false = allS p l r := by
  cases hq : allS p l r with
  | false => rfl
  | true => rw [(allS_iff.1 hq).2 i a b ha hb] at h; cases h
theorem allS_len {l : List α} {r : List β} (h : l.length ≠ r.length) : false = allS p l r := by
  cases hq : allS p l r with
  | false => rfl
  | true => exact absurd (allS_iff.1 hq).1 h
end
mutual
def Expr.same : Expr → Expr → Bool
  | .mk k n t nm ty _ l _ _, .mk k' n' t' nm' ty' _ l' _ _ => decide (k = k' ∧ n = n' ∧ t = t' ∧ nm = nm' ∧ ty = ty') && sameL l l'
def sameL : List Expr → List Expr → Bool
  | [], [] => true
  | a :: l, b :: r => a.same b && sameL l r
  | _, _ => false
end
theorem Expr.same_eq (e f : Expr) : e.same f = (decide (e.kind = f.kind ∧ e.num = f.num ∧ e.text = f.text ∧ e.name = f.name ∧ e.type = f.type) && sameL e.l f.l) := by cases e; cases f; rw [Expr.same]; rfl
theorem sameL_eq : ∀ l r : List Expr, sameL l r = allS Expr.same l r
  | [], [] => by rw [sameL, allS]
  | [], _ :: _ => by rw [sameL, allS] <;> simp
  | _ :: _, [] => by rw [sameL, allS] <;> simp
  | a :: l, b :: r => by rw [sameL, allS, sameL_eq l r]
mutual
def Stmt.same : Stmt → Stmt → Bool
  | .mk k n ty nm _ e _ a _ b _ c _, .mk k' n' ty' nm' _ e' _ a' _ b' _ c' _ => decide (k = k' ∧ n = n' ∧ ty = ty' ∧ nm = nm') && (sameL e e' && (sameT a a' && (sameT b b' && sameT c c')))
def sameT : List Stmt → List Stmt → Bool
  | [], [] => true
  | a :: l, b :: r => a.same b && sameT l r
  | _, _ => false
end
theorem Stmt.same_eq (e f : Stmt) : e.same f = (decide (e.kind = f.kind ∧ e.num = f.num ∧ e.type = f.type ∧ e.name = f.name) && (sameL e.e f.e && (sameT e.a f.a && (sameT e.b f.b && sameT e.c f.c)))) := by cases e; cases f; rw [Stmt.same]; rfl
theorem sameT_eq : ∀ l r : List Stmt, sameT l r = allS Stmt.same l r
  | [], [] => by rw [sameT, allS]
  | [], _ :: _ => by rw [sameT, allS] <;> simp
  | _ :: _, [] => by rw [sameT, allS] <;> simp
  | a :: l, b :: r => by rw [sameT, allS, sameT_eq l r]
theorem S.eq_iff {s t : S} : s = t ↔ s.len = t.len ∧ s.val = t.val := by cases s; cases t; simp
/-- Structs that are compared. -/
theorem wp_eqAgg {P : Program} {t : TypeId} {xs ys : List AV} {q : Bool} {K : KA} (hq : eqA P t (.agg xs) (.agg ys) = some q) (hk : K (.b q)) : eqiF P False t (.agg xs) (.agg ys) K := by
  show Option.rec (motive := fun _ => Prop) False (fun r => K (.b r)) (eqA P t (.agg xs) (.agg ys))
  rw [hq]
  exact hk
theorem ieq_d {a b : Int} : ieq a b = decide (a = b) := ieq_iff
theorem bi_dec {p : Prop} [Decidable p] {q : Bool} {o : Option Bool} (h : o = some q) : bi (decide p) o (some false) = some (decide p && q) := by
  subst h
  by_cases hp : p
  · rw [decide_eq_true hp]; rfl
  · rw [decide_eq_false hp]; rfl
theorem seq_d {s t : S} : bi (Nat.beq s.len t.len) (Nat.beq s.val t.val) false = decide (s = t) := by
  have := @seq_iff s.len s.val t.len t.val
  show (Bool.rec false (Nat.beq s.val t.val) (Nat.beq s.len t.len) : Bool) = _
  rw [this]
  congr 1
  exact propext S.eq_iff.symm
end Go.Zev

/-
  General proofs: from the cells of an argument to a tree; an argument reads behind the call as it did.
-/
set_option linter.unusedVariables false
namespace Go.Zev
open Go
theorem grown_heap {W W' : World} (hg : RowKit.Grown W W') (b : Nat) (hp : b < W.heap.size) : W'.heap[b]? = W.heap[b]? := by
  obtain ⟨⟨_, _, hk⟩, _, _⟩ := hg
  have h := hk b hp
  cases h1 : W.heap[b]? with
  | none =>
    rw [h1] at h
    cases h2 : W'.heap[b]? with
    | none => rfl
    | some o => rw [h2] at h; exact absurd h (by simp)
  | some o =>
    rw [h1] at h
    cases h2 : W'.heap[b]? with
    | none => rw [h2] at h; cases o <;> exact absurd h (by simp)
    | some o' =>
      rw [h2] at h
      cases o <;> cases o' <;> dsimp only at h ⊢ <;> first
        | exact h
        | (obtain ⟨rfl, rfl, h3, h4⟩ := h
           congr 1
           congr 1
           exact Array.ext_getElem? fun j => h4 j fun hf => hf)
        | (rcases h with h | ⟨rfl, rfl⟩
           · exact h.elim
           · rfl)
theorem grown_same {W W' : World} (hg : RowKit.Grown W W') (p : MemPlace) (hp : p.block < W.heap.size) : W.sameAt W' p := by
  cases p with
  | cell b off =>
    show W'.cell? ⟨b, off, none⟩ = W.cell? ⟨b, off, none⟩
    unfold World.cell?
    dsimp only
    rw [grown_heap hg b hp]
  | map b => exact grown_heap hg b hp
/-- An argument reads behind the call as it did. -/
theorem arg_stays {H : Type} {enc : TypeId × Value → H} {P : Program} {W W' : World} {t : TypeId} (hl : laidOutB P = true) (hr : P.readableRec t = true) (hrow : t < P.types.size) {sp : Nat → Bool} {v : Value} {d : DataW H} {ps : List MemPlace}
    (h : DataW.Trod enc P W 0 (fun _ => true) true t v d ps) (hg : RowKit.Grown W W') (hlt : ∀ p ∈ ps, p.block < W.heap.size) (hs : ∀ p ∈ ps, sp p.block = true) : DataW.Trod enc P W' 0 sp true t v d ps :=
  WideElems.Trod_stays hl hr hrow h (fun p hp => grown_same hg p (hlt p hp)) hs
section
variable {w : World} {H : Type} {enc : TypeId × Value → H} {P : Program} {G : TypeId → Bool}
theorem arg_struct (hG : Plain P G) {t : TypeId} (ht : G t = true) {fs : Array Field} (hu : P.underlying t = some (.struct fs)) {r : Reach} {b0 : Nat} {v : Value} {d : DataW H} {ps : List MemPlace} (hv : Value.okWide P w r b0 t v) (h : DataW.Trod enc P w 0 (fun _ => true) true t v d ps) :
    ∃ n cs, FRep w noBad (.agg cs) v ∧ Shp P n t cs := by
  obtain ⟨vs, rfl, -⟩ := WideShapes.okWide_struct hu hv
  obtain ⟨n, hn⟩ := h
  obtain ⟨cs, h1, h2⟩ := trod_F hG n t _ d ps ht hn
  exact ⟨n, cs, by rw [FRep]; exact ⟨vs, rfl, h1⟩, h2⟩
theorem arg_slice (hG : Plain P G) {t e : TypeId} (ht : G t = true) (hu : P.underlying t = some (.slice e)) {r : Reach} {b0 : Nat} {v : Value} {d : DataW H} {ps : List MemPlace} (hv : Value.okWide P w r b0 t v) (h : DataW.Trod enc P w 0 (fun _ => true) true t v d ps) :
    ∃ n c, FRep w noBad c v ∧ Shp P n t [c] := by
  obtain ⟨a, len, cap, rfl⟩ := WideShapes.okWide_slice hu hv
  obtain ⟨n, hn⟩ := h
  obtain ⟨cs, h1, h2⟩ := trod_F hG n t _ d ps ht hn
  have h3 : FReps w noBad cs [.slice a len cap] := h1
  cases cs with
  | nil => rw [FReps] at h3; cases h3
  | cons c r =>
    rw [FReps] at h3
    obtain ⟨u, us, he, h4, h5⟩ := h3
    injection he with he1 he2
    subst he1 he2
    have := FReps_len h5
    cases r with
    | nil => exact ⟨n, c, h4, h2⟩
    | cons _ _ => simp at this
end
/-! ### From cells to trees -/
section
variable {P : Program}
theorem shp_bool {n : Nat} {t : TypeId} {c : AV} (ht : P.underlying t = some .bool) (h : Shp P n t [c]) : ∃ q, c = .b q := by
  cases n with
  | zero => exact h.elim
  | succ n => unfold Shp at h; rw [ht] at h; obtain ⟨q, h⟩ := h; injection h with h _; exact ⟨q, h⟩
theorem shp_int {n : Nat} {t : TypeId} {c : AV} {k : IntKind} (ht : P.underlying t = some (.int k)) (h : Shp P n t [c]) : ∃ z, c = .i k z := by
  cases n with
  | zero => exact h.elim
  | succ n => unfold Shp at h; rw [ht] at h; obtain ⟨q, h, _⟩ := h; injection h with h _; exact ⟨q, h⟩
theorem shp_str {n : Nat} {t : TypeId} {c : AV} (ht : P.underlying t = some .string) (h : Shp P n t [c]) : ∃ s : S, c = s.av := by
  cases n with
  | zero => exact h.elim
  | succ n => unfold Shp at h; rw [ht] at h; obtain ⟨q, h, _⟩ := h; injection h with h _; exact ⟨q, h⟩
theorem shp_sl {n : Nat} {t e : TypeId} {c : AV} (ht : P.underlying t = some (.slice e)) (h : Shp P n t [c]) : ∃ m, n = m + 1 ∧ ∃ (g : Tg) (el : List (List AV)), c = slA (P.cellsOf e) g el ∧ ∀ x ∈ el, Shp P m e x := by
  cases n with
  | zero => exact h.elim
  | succ n => unfold Shp at h; rw [ht] at h; obtain ⟨g, el, h, _, h2⟩ := h; injection h with h _; exact ⟨n, rfl, g, el, h, h2⟩
theorem shp_fields {n : Nat} {t : TypeId} {fs : Array Field} {cs : List AV} (ht : P.underlying t = some (.struct fs)) (h : Shp P n t cs) : ∃ m, n = m + 1 ∧ cs.length = fs.size ∧ ∀ (i : Nat) (u : TypeId) (c : AV), (fs.toList.map (·.type))[i]? = some u → cs[i]? = some c → Shp P m u [c] := by
  cases n with
  | zero => exact h.elim
  | succ n =>
    unfold Shp at h
    rw [ht] at h
    refine ⟨n, rfl, h.1, fun i u c hu hc => ?_⟩
    rw [List.getElem?_map] at hu
    cases hf : fs.toList[i]? with
    | none => rw [hf] at hu; cases hu
    | some f =>
      rw [hf] at hu
      injection hu with hu
      subst hu
      exact h.2 i f c (by simpa using hf) hc
theorem els_of {α : Type} {cells : α → List AV} {p : List AV → Prop} (h : ∀ x, p x → ∃ e : α, x = cells e) : ∀ (el : List (List AV)), (∀ x ∈ el, p x) → ∃ l : List α, el = l.map cells
  | [], _ => ⟨[], rfl⟩
  | x :: el, hx => by
    obtain ⟨e, he⟩ := h x (hx x (List.mem_cons_self ..))
    obtain ⟨l, hl⟩ := els_of h el fun y hy => hx y (List.mem_cons_of_mem _ hy)
    exact ⟨e :: l, by rw [he, hl]; rfl⟩
/-- The types of a program's data. -/
structure ApiT (P : Program) where
  (b i n s e es : TypeId)
  (fe : Array Field)
  hb : P.underlying b = some .bool
  hi : P.underlying i = some (.int .i64)
  hn : P.underlying n = some (.int .i32)
  hs : P.underlying s = some .string
  he : P.underlying e = some (.struct fe)
  hes : P.underlying es = some (.slice e)
  hfe : fe.toList.map (·.type) = [i, n, s, s, s, es, s, i]
  hce : P.cellsOf e = 8
theorem len8 {α : Type} {l : List α} (h : l.length = 8) : ∃ a b c d e f g i, l = [a, b, c, d, e, f, g, i] := by
  match l, h with
  | [a, b, c, d, e, f, g, i], _ => exact ⟨a, b, c, d, e, f, g, i, rfl⟩
theorem len9 {α : Type} {l : List α} (h : l.length = 9) : ∃ a b c d e f g i j, l = [a, b, c, d, e, f, g, i, j] := by
  match l, h with
  | [a, b, c, d, e, f, g, i, j], _ => exact ⟨a, b, c, d, e, f, g, i, j, rfl⟩
theorem shp_expr (A : ApiT P) : ∀ (n : Nat) (cs : List AV), Shp P n A.e cs → ∃ x : Expr, cs = x.cells := by
  intro n
  induction n using Nat.strongRecOn with
  | _ n ih =>
    intro cs h
    obtain ⟨m, rfl, hl, hf⟩ := shp_fields A.he h
    have hsz : A.fe.size = 8 := by have := congrArg List.length A.hfe; simpa using this
    rw [hsz] at hl
    obtain ⟨c0, c1, c2, c3, c4, c5, c6, c7, rfl⟩ := len8 hl
    rw [A.hfe] at hf
    obtain ⟨k, rfl⟩ := shp_int A.hi (hf 0 _ _ rfl rfl)
    obtain ⟨nn, rfl⟩ := shp_int A.hn (hf 1 _ _ rfl rfl)
    obtain ⟨s2, rfl⟩ := shp_str A.hs (hf 2 _ _ rfl rfl)
    obtain ⟨s3, rfl⟩ := shp_str A.hs (hf 3 _ _ rfl rfl)
    obtain ⟨s4, rfl⟩ := shp_str A.hs (hf 4 _ _ rfl rfl)
    obtain ⟨m', rfl, g, el, rfl, hel⟩ := shp_sl A.hes (hf 5 _ _ rfl rfl)
    obtain ⟨s6, rfl⟩ := shp_str A.hs (hf 6 _ _ rfl rfl)
    obtain ⟨z, rfl⟩ := shp_int A.hi (hf 7 _ _ rfl rfl)
    obtain ⟨l, rfl⟩ := els_of (cells := Expr.cells) (fun x hx => ih m' (by omega) x hx) el hel
    exact ⟨.mk k nn s2 s3 s4 g l s6 z, by rw [Expr.cells, cellsL_eq, A.hce]⟩
theorem shp_exprs (A : ApiT P) {n : Nat} {c : AV} (h : Shp P n A.es [c]) : ∃ (g : Tg) (l : List Expr), c = slA 8 g (cellsL l) := by
  obtain ⟨m, rfl, g, el, rfl, hel⟩ := shp_sl A.hes h
  obtain ⟨l, rfl⟩ := els_of (cells := Expr.cells) (fun x hx => shp_expr A m x hx) el hel
  exact ⟨g, l, by rw [cellsL_eq, A.hce]⟩
structure ApiS (P : Program) extends ApiT P where
  (t ts : TypeId)
  (ft : Array Field)
  ht : P.underlying t = some (.struct ft)
  hts : P.underlying ts = some (.slice t)
  hft : ft.toList.map (·.type) = [i, n, s, s, es, ts, ts, ts, i]
  hct : P.cellsOf t = 9
theorem shp_stmt (A : ApiS P) : ∀ (n : Nat) (cs : List AV), Shp P n A.t cs → ∃ x : Stmt, cs = x.cells := by
  intro n
  induction n using Nat.strongRecOn with
  | _ n ih =>
    intro cs h
    obtain ⟨m, rfl, hl, hf⟩ := shp_fields A.ht h
    have hsz : A.ft.size = 9 := by have := congrArg List.length A.hft; simpa using this
    rw [hsz] at hl
    obtain ⟨c0, c1, c2, c3, c4, c5, c6, c7, c8, rfl⟩ := len9 hl
    rw [A.hft] at hf
    obtain ⟨k, rfl⟩ := shp_int A.hi (hf 0 _ _ rfl rfl)
    obtain ⟨nn, rfl⟩ := shp_int A.hn (hf 1 _ _ rfl rfl)
    obtain ⟨s2, rfl⟩ := shp_str A.hs (hf 2 _ _ rfl rfl)
    obtain ⟨s3, rfl⟩ := shp_str A.hs (hf 3 _ _ rfl rfl)
    obtain ⟨g4, l4, rfl⟩ := shp_exprs A.toApiT (hf 4 _ _ rfl rfl)
    obtain ⟨m5, e5, g5, el5, rfl, hel5⟩ := shp_sl A.hts (hf 5 _ _ rfl rfl)
    obtain ⟨m6, e6, g6, el6, rfl, hel6⟩ := shp_sl A.hts (hf 6 _ _ rfl rfl)
    obtain ⟨m7, e7, g7, el7, rfl, hel7⟩ := shp_sl A.hts (hf 7 _ _ rfl rfl)
    obtain ⟨z, rfl⟩ := shp_int A.hi (hf 8 _ _ rfl rfl)
    obtain ⟨l5, rfl⟩ := els_of (cells := Stmt.cells) (fun x hx => ih m5 (by omega) x hx) el5 hel5
    obtain ⟨l6, rfl⟩ := els_of (cells := Stmt.cells) (fun x hx => ih m6 (by omega) x hx) el6 hel6
    obtain ⟨l7, rfl⟩ := els_of (cells := Stmt.cells) (fun x hx => ih m7 (by omega) x hx) el7 hel7
    exact ⟨.mk k nn s2 s3 g4 l4 g5 l5 g6 l6 g7 l7 z, by rw [Stmt.cells, cellsT_eq, cellsT_eq, cellsT_eq, A.hct]⟩
theorem shp_stmts (A : ApiS P) {n : Nat} {c : AV} (h : Shp P n A.ts [c]) : ∃ (g : Tg) (l : List Stmt), c = slA 9 g (cellsT l) := by
  obtain ⟨m, rfl, g, el, rfl, hel⟩ := shp_sl A.hts h
  obtain ⟨l, rfl⟩ := els_of (cells := Stmt.cells) (fun x hx => shp_stmt A m x hx) el hel
  exact ⟨g, l, by rw [cellsT_eq, A.hct]⟩
end
/-- Plain types, by looking. -/
def plainB (P : Program) (l : List TypeId) (t : TypeId) : Bool :=
  match P.underlying t with
  | some .bool | some (.int _) | some .string => true
  | some (.slice e) => l.contains e && decide (0 < P.cellsOf e)
  | some (.struct fs) => (P.cellsOf t == fs.size) && ((List.range fs.size).all fun i => match fs[i]? with | some f => f.offset == i && P.cellsOf f.type == 1 && l.contains f.type | none => true)
  | _ => false
theorem plain_of {P : Program} {l : List TypeId} (h : l.all (plainB P l) = true) : Plain P l.contains := by
  intro t ht
  have h1 := List.all_eq_true.1 h t (by simpa using ht)
  unfold plainB at h1
  cases hu : P.underlying t with
  | none => rw [hu] at h1; cases h1
  | some D =>
    rw [hu] at h1
    cases D <;> try (cases h1; done)
    · trivial
    · trivial
    · trivial
    · simpa using h1
    · simp only [Bool.and_eq_true, beq_iff_eq, List.all_eq_true, List.mem_range] at h1
      refine ⟨h1.1, fun i f hf => ?_⟩
      have hi := (Array.getElem?_eq_some_iff.1 hf).1
      have := h1.2 i hi
      rw [hf] at this
      simp only [Bool.and_eq_true, beq_iff_eq] at this
      exact ⟨this.1.1, this.1.2, this.2⟩
/-- What the evaluator's answer says of the call, for every world. -/
theorem ev_calls {P : Program} {cfg : Cfg} (hm : P.follows .mixedOrders = true) (ok : CfgOK P cfg) {n : Nat} {f : FuncId} {args : List AV} (hk : EvN P cfg n f args (.b true)) {w : World} {vs : Array Value} (hv : FReps w noBad args vs.toList) :
    Calls P f vs w fun e w' => e = .returned (.bool true) ∧ RowKit.Grown w w' := by
  have hh : callF P False cfg n f args Heap.empty (fun v _ => v = .b true) := hk _ _ rfl
  have hbad : BadOf noBad Heap.empty (fun _ => none) = noBad := by
    funext k
    exact propext ⟨fun e => e.resolve_right (noOwn k), .inl⟩
  obtain ⟨_, hc⟩ := calls_sound hm ok n noBad Heap.empty w (fun _ => none) f args vs _ (noBlocks w) (by rw [hbad]; exact FReps.toV _ _ _ hv) hh
  refine hc.mono fun e w' ⟨av', h', φ', hav, hout, far⟩ => ?_
  have hav : av' = .b true := hav
  rw [hav] at hout
  rcases hout with ⟨v, he, hv'⟩ | ⟨x, c, hx, _, _⟩
  · have hv2 : v = .bool true := V_b.1 hv'
    subst hv2
    exact ⟨he, grown_ext noOwn far.ext⟩
  · cases hx
theorem FRep_int {w : World} (a : Int) : FRep w noBad (.i .i64 a) (.int .i64 a) := by rw [FRep]
end Go.Zev

/-
  General proofs: a slice that a function appends to.
-/
set_option linter.unusedVariables false
namespace Go.Zev
open Go
/-- What a slice holds that has been appended to (or not yet), and what block it lies in. -/
def SlF (x : AV) (sz : Nat) (L : List (List AV)) (sf base : List (Nat × Blk)) : Prop :=
  (x = .nsl ∧ L = [] ∧ sf = []) ∨ ∃ c, x = .sl c sz 0 L.length L.length false ∧ L ≠ [] ∧ sf = [(c, .cells sz L)] ∧ ∀ p ∈ base, p.1 ≠ c
theorem SlF.nil {sz : Nat} {base : List (Nat × Blk)} : SlF .nsl sz [] [] base := .inl ⟨rfl, rfl, rfl⟩
section
variable {P : Program} {h : Heap} {nx : Nat} {l base sf : List (Nat × Blk)} {x : AV} {sz : Nat} {L : List (List AV)}
theorem SlF.one (hf : SlF x sz L sf base) : AV.one x = true := by rcases hf with ⟨rfl, _, _⟩ | ⟨c, rfl, _⟩ <;> rfl
theorem SlF.oneV (hf : SlF x sz L sf base) : Go.Zev.oneV x = true := by rcases hf with ⟨rfl, _, _⟩ | ⟨c, rfl, _⟩ <;> rfl
theorem SlF.plainV (hf : SlF x sz L sf base) : Go.Zev.plainV x = true := by rcases hf with ⟨rfl, _, _⟩ | ⟨c, rfl, _⟩ <;> rfl
theorem SlF.asPn (hf : SlF x sz L sf base) : Go.Zev.asPn x = none := by rcases hf with ⟨rfl, _, _⟩ | ⟨c, rfl, _⟩ <;> rfl
theorem SlF.cells (hf : SlF x sz L sf base) : x.cells = [x] := by rcases hf with ⟨rfl, _, _⟩ | ⟨c, rfl, _⟩ <;> rfl
theorem SlF.len {K : KA} (hf : SlF x sz L sf base) (hk : K (.i .i64 (L.length : Int))) : lenF False x K := by
  rcases hf with ⟨rfl, rfl, _⟩ | ⟨c, rfl, _⟩ <;> exact hk
theorem SlF.sub {base' : List (Nat × Blk)} (hf : SlF x sz L sf base) (hb : ∀ p ∈ base', p ∈ base) : SlF x sz L sf base' := by
  rcases hf with h | ⟨c, h1, h2, h3, h4⟩
  · exact .inl h
  · exact .inr ⟨c, h1, h2, h3, fun p hp => h4 p (hb p hp)⟩
/-- The same, beside what lies in new blocks. -/
theorem SlF.more {base' : List (Nat × Blk)} (hf : SlF x sz L sf base) (hs : HS h nx far (sf ++ base)) (hb : ∀ p ∈ base', p ∈ base ∨ nx ≤ p.1) : SlF x sz L sf base' := by
  rcases hf with h | ⟨c, h1, h2, rfl, h4⟩
  · exact .inl h
  · have hc := (hs.has (c, .cells sz L) (List.mem_append.2 (.inl (List.mem_cons_self ..)))).1
    exact .inr ⟨c, h1, h2, rfl, fun p hp => by rcases hb p hp with h | h; exact h4 p h; omega⟩
theorem SlF.ne {b : Nat} {y : Blk} (hf : SlF x sz L sf base) (hb : (b, y) ∈ base) : ∀ p ∈ sf, p.1 ≠ b := by
  rcases hf with ⟨_, _, rfl⟩ | ⟨c, _, _, rfl, h⟩
  · intro p hp; cases hp
  · intro p hp
    simp at hp
    subst hp
    exact fun e => h _ hb e.symm
theorem sub_app {a b : List (Nat × Blk)} (h1 : ∀ p ∈ a, p ∈ l) (h2 : ∀ p ∈ b, p ∈ l) : ∀ p ∈ a ++ b, p ∈ l := fun p hp => (List.mem_append.1 hp).elim (h1 p) (h2 p)
theorem SlF.more' {base' : List (Nat × Blk)} (hf : SlF x sz L sf base) (hs : ∀ p ∈ sf, p.1 < nx) (hb : ∀ p ∈ base', (∃ q ∈ base, q.1 = p.1) ∨ nx ≤ p.1) : SlF x sz L sf base' := by
  rcases hf with h | ⟨c, h1, h2, rfl, h4⟩
  · exact .inl h
  · have hc := hs (c, .cells sz L) (List.mem_cons_self ..)
    exact .inr ⟨c, h1, h2, rfl, fun p hp => by rcases hb p hp with ⟨q, hq, e⟩ | h; rw [← e]; exact h4 q hq; have hc : c < nx := hc; omega⟩
/-- One more is appended: it lies in a block of its own (or more do). -/
theorem wp_appX {ty uy e : TypeId} {z : List AV} {c2 n : Nat} {f : Bool} {src : List (List AV)} {K : PK} (hP : slOf P ty = some (e, sz, z)) (hi : isIntT P uy = false) (hsl : isSlT P uy = true) (hby : Nat.ble (bytesOf P e) (2 ^ 20) = true)
    (hf : SlF x sz L sf base) (hs : HS h nx far l) (hsub : ∀ p ∈ sf ++ base, p ∈ l) (hc2 : (c2, Blk.cells sz src) ∈ l) (hn : src.length = n) (hn0 : 0 < n) (ho : onesAll src = true) (hlen : L.length + n ≤ 100000) (hc : nx < cap)
    (hk : ∀ x' h' sf', SlF x' sz (L ++ src) sf' base → HS h' (nx + 1) far (sf' ++ base) → (∀ p ∈ sf', nx ≤ p.1) → K x' h') : appX P False h h.next ty uy x (.sl c2 sz 0 n n f) K := by
  have hm : Nat.ble (llen src) most = true := ble_iff.2 (by rw [llen_eq]; unfold most; omega)
  have helems : ∀ k : List (List AV) → Prop, k src → elemsA False h sz (.sl c2 sz 0 n n f) k := by
    intro k hk
    have hg : h.get c2 = .cells sz src := by rw [← hgetF_eq]; exact hs.get hc2
    unfold elemsA
    dsimp only
    rw [beq_iff.2 rfl, hg]
    show bi (lhas (ltake (ldrop src 0) n) n) (k (ltake (ldrop src 0) n)) False
    have e1 : ltake (ldrop src 0) n = src := by rw [ltake_eq, ldrop_eq]; simp [← hn]
    rw [e1, lhas_iff.2 hn]
    exact hk
  have hA : ∀ k : PK, append2 False h h.next sz x src k → appendA P False h h.next ty uy x (.sl c2 sz 0 n n f) k := by
    intro k hk
    unfold appendA
    rw [hP]
    show bi (isSlT P uy && Nat.ble (bytesOf P e) (2 ^ 20)) (elemsA False h sz (.sl c2 sz 0 n n f) fun src => append2 False h h.next sz x src k) False
    rw [hsl, hby]
    exact helems _ hk
  have hB : append2 False h h.next sz x src K := by
    have : append2 False h h.next sz x src K = bi (onesAll src && Nat.ble (llen src) most) (appendE False h h.next sz x src (llen src) K) False := by
      cases src with
      | nil => simp at hn; omega
      | cons _ _ => rfl
    rw [this, ho, hm]
    show appendE False h h.next sz x src (llen src) K
    rw [llen_eq, hn]
    rcases hf with ⟨rfl, rfl, rfl⟩ | ⟨c, rfl, hL, rfl, hb⟩
    · show K (appN h.next sz n) (h.new h.next (.cells sz src))
      rw [hs.next, ← hnewF_eq]
      have h2 := (hs.sub (l' := base) (fun p hp => hsub p (by simpa using hp))).new' hc (.cells sz src)
      refine hk _ _ [(nx, .cells sz src)] (.inr ⟨nx, by rw [List.nil_append, hn]; rfl, by simp; rintro rfl; simp at hn; omega, by simp, fun p hp => ?_⟩) h2 (fun p hp => by simp at hp; subst hp; exact Nat.le_refl _)
      have := (hs.has p (hsub p (by simpa using hp))).1
      omega
    · show bi (Nat.beq sz sz && Nat.ble L.length most) (match h.get c with | .cells _ el => appendSl False h h.next sz c 0 L.length false src n el K | _ => False) False
      have hcm : (c, Blk.cells sz L) ∈ l := hsub _ (by simp)
      have hg : h.get c = .cells sz L := by rw [← hgetF_eq]; exact hs.get hcm
      rw [beq_iff.2 rfl, ble_iff.2 (show L.length ≤ most by unfold most; omega), hg]
      show bi (Nat.beq 0 0 && lhas L L.length) (K (appN h.next sz (L.length + n)) ((h.set c .none).new h.next (.cells sz (lapp L src)))) False
      rw [lhas_iff.2 rfl, lapp_eq, hs.next]
      have h1 := hs.set hcm .none base (fun p hp => ⟨hsub p (by simp [hp]), hb p hp⟩)
      have h2 : HS (hsetF h c .none) nx far base := h1.sub fun p hp => List.mem_cons_of_mem _ hp
      have h3 := h2.new' hc (.cells sz (L ++ src))
      rw [hsetF_eq, hnewF_eq] at h3
      refine hk _ _ [(nx, .cells sz (L ++ src))] (.inr ⟨nx, by rw [List.length_append, hn]; rfl, by simp [hL], rfl, fun p hp => ?_⟩) h3 (fun p hp => by simp at hp; subst hp; exact Nat.le_refl _)
      have := (hs.has p (hsub p (by simp [hp]))).1
      omega
  unfold appX
  rw [hi]
  have hq : hereQ h x = false := by
    rcases hf with ⟨rfl, rfl, rfl⟩ | ⟨c, rfl, hL, rfl, hb⟩
    · rfl
    · have hg : h.get c = .cells sz L := by rw [← hgetF_eq]; exact hs.get (hsub _ (by simp))
      show (match h.get c with | .cells _ el => !(Nat.beq 0 0 && lhas el L.length) | _ => false) = false
      rw [hg]
      show (!(Nat.beq 0 0 && lhas L L.length)) = false
      rw [lhas_iff.2 rfl]
      rfl
  rw [hq]
  exact hA _ hB
/-- How such a slice stands, once nobody appends to it any more. -/
def tgOf {α : Type} (l : List α) : Tg := match l with | [] => .nil | _ => .fs
theorem SlF.frz {n : Nat} (hf : SlF x sz L sf base) (hs : HS h nx far l) (hsub : ∀ p ∈ sf, p ∈ l) (he : ∀ e ∈ L, ∀ c ∈ e, Go.Zev.frz h n c = some c) : Go.Zev.frz h (n + 1) x = some (slA sz (tgOf L) L) := by
  rcases hf with ⟨rfl, rfl, rfl⟩ | ⟨c, rfl, hL, rfl, hb⟩
  · rfl
  · have hg : h.get c = .cells sz L := by rw [← hgetF_eq]; exact hs.get (hsub _ (by simp))
    have e1 : ltake (ldrop L 0) L.length = L := by rw [ltake_eq, ldrop_eq]; simp
    have e2 : lmapO (lmapO (Go.Zev.frz h n)) L = some L := lmapO_id fun e hx => lmapO_id (he e hx)
    show (match h.get c with | .cells _ el => (fun l : List (List AV) => (bi (lhas l L.length) (ob (lmapO (lmapO (Go.Zev.frz h n)) l) fun l => some (AV.fs sz false l)) none : Option AV)) (ltake (ldrop el 0) L.length) | _ => none) = _
    rw [hg]
    show bi (lhas (ltake (ldrop L 0) L.length) L.length) (ob (lmapO (lmapO (Go.Zev.frz h n)) (ltake (ldrop L 0) L.length)) fun l => some (AV.fs sz false l)) none = _
    rw [e1, lhas_iff.2 rfl, e2]
    show some (AV.fs sz false L) = _
    cases L with
    | nil => exact absurd rfl hL
    | cons _ _ => rfl
theorem lmapO_cons {α β : Type} {f : α → Option β} {x : α} {y : β} {r : List α} {s : List β} (h1 : f x = some y) (h2 : lmapO f r = some s) : lmapO f (x :: r) = some (y :: s) := by
  show Option.rec (motive := fun _ => Option (List β)) none (fun y => Option.rec (motive := fun _ => Option (List β)) none (fun r => some (y :: r)) (lmapO f r)) (f x) = _
  rw [h1, h2]
theorem lmapO_nil {α β : Type} {f : α → Option β} : lmapO f [] = some [] := rfl
/-- A struct whose cells are laid each by itself. -/
theorem frz_cells {n : Nat} {cs ds : List AV} (hc : lmapO (Go.Zev.frz h n) cs = some ds) : Go.Zev.frz h (n + 1) (.agg cs) = some (.agg ds) := by
  show ob (lmapO (Go.Zev.frz h n) cs) (fun cs => some (AV.agg cs)) = _
  rw [hc]
theorem cellsL_frz (h : Heap) (n : Nat) (l : List Expr) : ∀ x ∈ cellsL l, ∀ c ∈ x, Go.Zev.frz h (n + 1) c = some c := by
  rw [cellsL_eq]
  intro x hx c hc
  obtain ⟨e, _, rfl⟩ := List.mem_map.1 hx
  exact e.cfrz h n c hc
theorem cellsT_frz (h : Heap) (n : Nat) (l : List Stmt) : ∀ x ∈ cellsT l, ∀ c ∈ x, Go.Zev.frz h (n + 1) c = some c := by
  rw [cellsT_eq]
  intro x hx c hc
  obtain ⟨e, _, rfl⟩ := List.mem_map.1 hx
  exact e.cfrz h n c hc
theorem onesAll_one {e : List AV} (h : AV.ones e = true) : onesAll [e] = true := by
  unfold onesAll
  rw [lall_eq]
  simp [h]
end
end Go.Zev

/-
  General proofs: copies of expressions, their parts, a part put in a place.
-/
set_option linter.unusedVariables false
namespace Go.Zev
open Go
mutual
def Expr.copy : Expr → Expr
  | .mk k n t nm ty _ l o nt => .mk k n t nm ty (tgOf l) (copyL l) o nt
def copyL : List Expr → List Expr
  | [] => []
  | e :: l => e.copy :: copyL l
end
theorem copyL_eq : ∀ l, copyL l = l.map Expr.copy
  | [] => by rw [copyL]; rfl
  | e :: l => by rw [copyL, copyL_eq l]; rfl
theorem copyL_len (l : List Expr) : (copyL l).length = l.length := by rw [copyL_eq, List.length_map]
theorem tgOf_cells (l : List Expr) : tgOf (cellsL l) = tgOf l := by cases l <;> rw [cellsL] <;> rfl
theorem tgOf_copy (l : List Expr) : tgOf (copyL l) = tgOf l := by cases l <;> rw [copyL] <;> rfl
theorem copyL_take (l : List Expr) {i : Nat} {e : Expr} (h : l[i]? = some e) : copyL (l.take (i + 1)) = copyL (l.take i) ++ [e.copy] := by
  rw [copyL_eq, copyL_eq, take_succ_get h, List.map_append]; rfl
theorem cellsL_snoc (l : List Expr) (e : Expr) : cellsL (l ++ [e]) = cellsL l ++ [e.cells] := by rw [cellsL_app, cellsL_eq [e]]; rfl
theorem Expr.copy_cells (e : Expr) : e.copy.cells = [.i .i64 e.kind, .i .i32 e.num, e.text.av, e.name.av, e.type.av, slA 8 (tgOf (cellsL (copyL e.l))) (cellsL (copyL e.l)), e.own.av, .i .i64 e.nth] := by
  rw [tgOf_cells, tgOf_copy]
  cases e
  rw [Expr.copy, Expr.cells]
  rfl
mutual
theorem Expr.copy_size : ∀ e : Expr, e.copy.size = e.size
  | .mk k n t nm ty _ l o nt => by rw [Expr.copy, Expr.size, Expr.size, copyL_size l]
theorem copyL_size : ∀ l : List Expr, sizeL (copyL l) = sizeL l
  | [] => by rw [copyL]
  | e :: l => by rw [copyL, sizeL_cons, sizeL_cons, Expr.copy_size e, copyL_size l]
end
mutual
theorem Expr.copy_copy : ∀ e : Expr, e.copy.copy = e.copy
  | .mk k n t nm ty _ l o nt => by rw [Expr.copy, Expr.copy, tgOf_copy, copyL_copy l]
theorem copyL_copy : ∀ l : List Expr, copyL (copyL l) = copyL l
  | [] => by rw [copyL, copyL]
  | e :: l => by rw [copyL, copyL, Expr.copy_copy e, copyL_copy l]
end
mutual
theorem Expr.copy_same : ∀ e f : Expr, e.copy.same f = e.same f
  | .mk k n t nm ty _ l o nt, .mk k' n' t' nm' ty' _ l' o' nt' => by rw [Expr.copy, Expr.same, Expr.same, copyL_same l l']
theorem copyL_same : ∀ l r : List Expr, sameL (copyL l) r = sameL l r
  | [], r => by rw [copyL]
  | e :: l, [] => by rw [copyL, sameL_eq, sameL_eq]; rfl
  | e :: l, f :: r => by rw [copyL, sameL_eq, sameL_eq, allS, allS, ← sameL_eq, ← sameL_eq, Expr.copy_same e f, copyL_same l r]
end
mutual
theorem Expr.same_copy : ∀ e f : Expr, e.same f.copy = e.same f
  | .mk k n t nm ty _ l o nt, .mk k' n' t' nm' ty' _ l' o' nt' => by rw [Expr.copy, Expr.same, Expr.same, sameL_copy l l']
theorem sameL_copy : ∀ l r : List Expr, sameL l (copyL r) = sameL l r
  | l, [] => by rw [copyL]
  | [], f :: r => by rw [copyL, sameL_eq, sameL_eq]; rfl
  | e :: l, f :: r => by rw [copyL, sameL_eq, sameL_eq, allS, allS, ← sameL_eq, ← sameL_eq, Expr.same_copy e f, sameL_copy l r]
end
mutual
theorem Expr.same_refl : ∀ e : Expr, e.same e = true
  | .mk k n t nm ty _ l o nt => by rw [Expr.same, sameL_refl l]; simp
theorem sameL_refl : ∀ l : List Expr, sameL l l = true
  | [] => by rw [sameL]
  | e :: l => by rw [sameL, Expr.same_refl e, sameL_refl l]; rfl
end
/-! How deep. -/
mutual
def Expr.deep : Expr → Nat
  | .mk _ _ _ _ _ _ l _ _ => 1 + deepL l
def deepL : List Expr → Nat
  | [] => 0
  | e :: l => max e.deep (deepL l)
end
theorem Expr.deep_eq (e : Expr) : e.deep = 1 + deepL e.l := by cases e; rw [Expr.deep]; rfl
theorem deepL_mem {e : Expr} : ∀ {l : List Expr}, e ∈ l → e.deep ≤ deepL l
  | x :: l, h => by
    rw [deepL]
    rcases List.mem_cons.1 h with rfl | h
    · omega
    · have := deepL_mem h; omega
theorem deepL_le {d : Nat} : ∀ {l : List Expr}, (∀ e ∈ l, e.deep ≤ d) → deepL l ≤ d
  | [], _ => by rw [deepL]; omega
  | e :: l, h => by
    rw [deepL]
    have h1 := h e (List.mem_cons_self ..)
    have h2 := deepL_le fun x hx => h x (List.mem_cons_of_mem _ hx)
    omega
mutual
theorem Expr.copy_deep : ∀ e : Expr, e.copy.deep = e.deep
  | .mk k n t nm ty _ l o nt => by rw [Expr.copy, Expr.deep, Expr.deep, copyL_deep l]
theorem copyL_deep : ∀ l : List Expr, deepL (copyL l) = deepL l
  | [] => by rw [copyL]
  | e :: l => by rw [copyL, deepL, deepL, Expr.copy_deep e, copyL_deep l]
end
/-! An expression and all its parts, each ahead of its parts (as copies). -/
mutual
def Expr.subs : Expr → List Expr
  | .mk k n t nm ty _ l o nt => .mk k n t nm ty (tgOf l) (copyL l) o nt :: subsL l
def subsL : List Expr → List Expr
  | [] => []
  | e :: l => e.subs ++ subsL l
end
theorem Expr.subs_eq (e : Expr) : e.subs = e.copy :: subsL e.l := by cases e; rw [Expr.subs, Expr.copy]; rfl
theorem subsL_take {l : List Expr} {i : Nat} {e : Expr} (h : l[i]? = some e) : subsL (l.take (i + 1)) = subsL (l.take i) ++ e.subs := by
  rw [take_succ_get h]
  generalize l.take i = a
  induction a with
  | nil => rw [List.nil_append, subsL, subsL, subsL]; simp
  | cons x a ih => rw [List.cons_append, subsL, subsL, ih, List.append_assoc]
mutual
theorem Expr.subs_len : ∀ e : Expr, e.subs.length = e.size
  | .mk k n t nm ty _ l o nt => by rw [Expr.subs, Expr.size, List.length_cons, subsL_len l]; omega
theorem subsL_len : ∀ l : List Expr, (subsL l).length = sizeL l
  | [] => by rw [subsL]; rfl
  | e :: l => by rw [subsL, List.length_append, sizeL_cons, Expr.subs_len e, subsL_len l]
end
/-! A part put in a place: how many are still to be passed over (none: it is done). -/
mutual
def Expr.put (x : Expr) : Expr → Option Nat → Expr × Option Nat
  | .mk k n t nm ty _ l o nt, s =>
    match s with
    | some 0 => (x.copy, none)
    | some (m + 1) => (.mk k n t nm ty (tgOf l) (putsL x l (some m)).1 o nt, (putsL x l (some m)).2)
    | none => (.mk k n t nm ty (tgOf l) (putsL x l none).1 o nt, (putsL x l none).2)
def putsL (x : Expr) : List Expr → Option Nat → List Expr × Option Nat
  | [], s => ([], s)
  | e :: l, s => ((Expr.put x e s).1 :: (putsL x l (Expr.put x e s).2).1, (putsL x l (Expr.put x e s).2).2)
end
variable (x : Expr)
mutual
theorem Expr.put_none : ∀ e : Expr, Expr.put x e none = (e.copy, none)
  | .mk k n t nm ty _ l o nt => by rw [Expr.put, Expr.copy, putsL_none l]
theorem putsL_none : ∀ l : List Expr, putsL x l none = (copyL l, none)
  | [] => by rw [putsL, copyL]
  | e :: l => by rw [putsL, copyL, Expr.put_none e, putsL_none l]
end
/-! What is passed over is as it was. -/
mutual
theorem Expr.put_far : ∀ (e : Expr) (n : Nat), e.size ≤ n → Expr.put x e (some n) = (e.copy, some (n - e.size))
  | .mk k nn t nm ty _ l o nt, n, h => by
    rw [Expr.size] at h
    obtain ⟨m, rfl⟩ : ∃ m, n = m + 1 := ⟨n - 1, by omega⟩
    rw [Expr.put, Expr.copy, Expr.size, putsL_far l m (by omega), show m + 1 - (1 + sizeL l) = m - sizeL l by omega]
theorem putsL_far : ∀ (l : List Expr) (n : Nat), sizeL l ≤ n → putsL x l (some n) = (copyL l, some (n - sizeL l))
  | [], n, _ => by rw [putsL, copyL, sizeL_nil]; rfl
  | e :: l, n, h => by
    rw [sizeL_cons] at h
    rw [putsL, copyL, Expr.put_far e n (by omega)]
    dsimp only
    rw [putsL_far l (n - e.size) (by omega), sizeL_cons, show n - e.size - sizeL l = n - (e.size + sizeL l) by omega]
end
theorem some_sub {a b : Nat} (h : a < b) : (some a : Option Nat) = some a := rfl
/-! It is put. -/
mutual
theorem Expr.put_done : ∀ (e : Expr) (n : Nat), n < e.size → (Expr.put x e (some n)).2 = none
  | .mk k nn t nm ty _ l o nt, 0, h => by rw [Expr.put]
  | .mk k nn t nm ty _ l o nt, n + 1, h => by
    rw [Expr.size] at h
    rw [Expr.put]
    exact putsL_done l n (by omega)
theorem putsL_done : ∀ (l : List Expr) (n : Nat), n < sizeL l → (putsL x l (some n)).2 = none
  | [], n, h => by rw [sizeL_nil] at h; omega
  | e :: l, n, h => by
    rw [sizeL_cons] at h
    rw [putsL]
    by_cases hn : n < e.size
    · dsimp only
      rw [Expr.put_done e n hn, putsL_none]
    · rw [Expr.put_far x e n (by omega)]
      exact putsL_done l (n - e.size) (by omega)
end
/-! Copies do not matter. -/
mutual
theorem Expr.put_copy : ∀ (e : Expr) (s : Option Nat), Expr.put x e.copy s = Expr.put x e s
  | .mk k nn t nm ty _ l o nt, none => by rw [Expr.copy, Expr.put, Expr.put, putsL_copy l, tgOf_copy]
  | .mk k nn t nm ty _ l o nt, some 0 => by rw [Expr.copy, Expr.put, Expr.put]
  | .mk k nn t nm ty _ l o nt, some (m + 1) => by rw [Expr.copy, Expr.put, Expr.put, putsL_copy l, tgOf_copy]
theorem putsL_copy : ∀ (l : List Expr) (s : Option Nat), putsL x (copyL l) s = putsL x l s
  | [], s => by rw [copyL]
  | e :: l, s => by rw [copyL, putsL, putsL, Expr.put_copy e s, putsL_copy l]
end
theorem tgOf_puts : ∀ (l : List Expr) (s : Option Nat), tgOf (putsL x l s).1 = tgOf l
  | [], s => by rw [putsL]
  | e :: l, s => by rw [putsL]; rfl
mutual
theorem Expr.copy_put : ∀ (e : Expr) (s : Option Nat), (Expr.put x e s).1.copy = (Expr.put x e s).1
  | .mk k nn t nm ty _ l o nt, none => by rw [Expr.put]; dsimp only; rw [Expr.copy, copyL_puts l, tgOf_puts]
  | .mk k nn t nm ty _ l o nt, some 0 => by rw [Expr.put]; exact x.copy_copy
  | .mk k nn t nm ty _ l o nt, some (m + 1) => by rw [Expr.put]; dsimp only; rw [Expr.copy, copyL_puts l, tgOf_puts]
theorem copyL_puts : ∀ (l : List Expr) (s : Option Nat), copyL (putsL x l s).1 = (putsL x l s).1
  | [], s => by rw [putsL, copyL]
  | e :: l, s => by rw [putsL]; dsimp only; rw [copyL, Expr.copy_put e s, copyL_puts l]
end
/-! A place within a place: what is put there stands in the whole at their numbers together. -/
mutual
theorem Expr.put_put : ∀ (e : Expr) (i k : Nat) (p : Expr), e.subs[i]? = some p → k < p.size → Expr.put (Expr.put x p (some k)).1 e (some i) = Expr.put x e (some (i + k))
  | .mk kd nn t nm ty tl l o nt, 0, k, p, hp, hk => by
    rw [Expr.subs] at hp
    have hc : p = Expr.copy (.mk kd nn t nm ty tl l o nt) := by rw [Expr.copy]; simpa using hp.symm
    subst hc
    rw [Expr.copy_size] at hk
    have h2 := Expr.put_done x _ k hk
    rw [Expr.put_copy, Nat.zero_add]
    generalize hq : Expr.put x (.mk kd nn t nm ty tl l o nt) (some k) = q at h2 ⊢
    rw [Expr.put, ← hq, Expr.copy_put, hq, ← h2]
  | .mk kd nn t nm ty _ l o nt, i + 1, k, p, hp, hk => by
    rw [Expr.subs] at hp
    have hp : (subsL l)[i]? = some p := by simpa using hp
    rw [show i + 1 + k = (i + k) + 1 by omega, Expr.put, Expr.put, putsL_put l i k p hp hk]
theorem putsL_put : ∀ (l : List Expr) (i k : Nat) (p : Expr), (subsL l)[i]? = some p → k < p.size → putsL (Expr.put x p (some k)).1 l (some i) = putsL x l (some (i + k))
  | [], i, k, p, hp, hk => by rw [subsL] at hp; simp at hp
  | e :: l, i, k, p, hp, hk => by
    rw [subsL] at hp
    by_cases hi : i < e.size
    · rw [List.getElem?_append_left (by rw [Expr.subs_len]; exact hi)] at hp
      have h1 := Expr.put_put e i k p hp hk
      have h2 := Expr.put_done (Expr.put x p (some k)).1 e i hi
      rw [putsL, putsL, h1]
      rw [h1] at h2
      rw [h2, putsL_none, putsL_none]
    · rw [List.getElem?_append_right (by rw [Expr.subs_len]; omega), Expr.subs_len] at hp
      rw [putsL, putsL, Expr.put_far _ e i (by omega), Expr.put_far _ e (i + k) (by omega)]
      dsimp only
      rw [putsL_put l (i - e.size) k p hp hk, show i - e.size + k = i + k - e.size by omega]
end
theorem putsL_snoc (x : Expr) (s : Option Nat) : ∀ (l : List Expr) (c : Expr), putsL x (l ++ [c]) s = ((putsL x l s).1 ++ [(Expr.put x c (putsL x l s).2).1], (Expr.put x c (putsL x l s).2).2)
  | [], c => by rw [List.nil_append, putsL, putsL, putsL]; rfl
  | e :: l, c => by rw [List.cons_append, putsL, putsL, putsL_snoc x _ l c]; rfl
theorem putsL_len (x : Expr) (s : Option Nat) (l : List Expr) : (putsL x l s).1.length = l.length := by
  induction l generalizing s with
  | nil => rw [putsL]
  | cons e l ih => rw [putsL, List.length_cons, List.length_cons, ih]
mutual
theorem put_le (x : Expr) : ∀ (e : Expr) (s : Option Nat) (N : Nat), (∀ m, s = some m → m ≤ N) → ∀ m, (Expr.put x e s).2 = some m → m ≤ N
  | .mk k n t nm ty _ l o nt, none, N, h, m, hm => by rw [Expr.put] at hm; exact putsL_le x l none N (fun _ h => by cases h) m hm
  | .mk k n t nm ty _ l o nt, some 0, N, h, m, hm => by rw [Expr.put] at hm; cases hm
  | .mk k n t nm ty _ l o nt, some (q + 1), N, h, m, hm => by
    rw [Expr.put] at hm
    exact putsL_le x l (some q) N (fun m hm => by injection hm with hm; have := h (q + 1) rfl; omega) m hm
theorem putsL_le (x : Expr) : ∀ (l : List Expr) (s : Option Nat) (N : Nat), (∀ m, s = some m → m ≤ N) → ∀ m, (putsL x l s).2 = some m → m ≤ N
  | [], s, N, h, m, hm => by rw [putsL] at hm; exact h m hm
  | e :: l, s, N, h, m, hm => by rw [putsL] at hm; exact putsL_le x l _ N (put_le x e s N h) m hm
end
/-- How many are left, behind one. -/
def dec1 : Option Nat → Option Nat
  | some (n + 1) => some n
  | _ => none
theorem put_eq (x e : Expr) (s : Option Nat) (hs : s ≠ some 0) : Expr.put x e s = (.mk e.kind e.num e.text e.name e.type (tgOf e.l) (putsL x e.l (dec1 s)).1 e.own e.nth, (putsL x e.l (dec1 s)).2) := by
  cases e
  cases s with
  | none => rw [Expr.put]; rfl
  | some m =>
    cases m with
    | zero => exact absurd rfl hs
    | succ m => rw [Expr.put]; rfl
theorem put_zero (x e : Expr) : Expr.put x e (some 0) = (x.copy, none) := by cases e; rw [Expr.put]
end Go.Zev

/-
  General proofs: within a drawn region: an append, a store into a block that was there ahead of it.
-/
set_option linter.unusedVariables false
namespace Go.Zev
open Go
section
variable {P : Program} {h : Heap} {nx base : Nat} {l w : List (Nat × Blk)}
theorem hide_raw {ids : List Nat} (hf : lany (Nat.beq far) ids = false) (h : Heap) {k : Nat} (hk : k ∉ ids) : (hide ids h).raw k = h.raw k := by
  unfold hide
  rw [hf]
  exact hide0_raw ids h k hk
theorem back_raw {ids : List Nat} (hf : lany (Nat.beq far) ids = false) (h g : Heap) (k : Nat) : (back h ids g).raw k = if k ∈ ids then h.raw k else g.raw k := by
  unfold back
  rw [hf]
  exact back0_raw h ids g k
theorem back_next {ids : List Nat} (hf : lany (Nat.beq far) ids = false) (h g : Heap) : (back h ids g).next = g.next := by
  unfold back
  rw [hf]
  exact back0_next h ids g
theorem hide_win {ids : List Nat} (hf : lany (Nat.beq far) ids = false) : ∀ (h : Heap), (hide ids h).lim = h.lim ∧ (hide ids h).top = h.top ∧ (hide ids h).mask = h.mask := by
  intro h
  unfold hide
  rw [hf]
  show (hide0 ids h).lim = h.lim ∧ (hide0 ids h).top = h.top ∧ (hide0 ids h).mask = h.mask
  clear hf
  induction ids generalizing h with
  | nil => exact ⟨rfl, rfl, rfl⟩
  | cons b r ih =>
    obtain ⟨h1, h2, h3⟩ := ih (h.set b .none)
    obtain ⟨g1, g2, g3⟩ := Heap.win_set h b .none
    exact ⟨h1.trans g1, h2.trans g2, h3.trans g3⟩
theorem back_win {ids : List Nat} (hf : lany (Nat.beq far) ids = false) (h : Heap) : ∀ (g : Heap), (back h ids g).lim = g.lim := by
  intro g
  unfold back
  rw [hf]
  show (back0 h ids g).lim = g.lim
  clear hf
  induction ids generalizing g with
  | nil => rfl
  | cons b r ih => exact (ih (g.set b (h.raw b))).trans (Heap.win_set g b (h.raw b)).1
/-- A store into a block that was there, out of whose sight some of the region's own are. -/
theorem wp_stW {b z m : Nat} {ids : List Nat} {e : List AV} {v : AV} {K : Heap → Prop} (hw : HW h nx base l w) (hbl : (b, Blk.cells z [e]) ∈ l) (hids : ∀ k ∈ ids, base ≤ k ∧ k < cap) (h1 : oneV v = true) (h2 : plainV v = true) (he : e.length = 1)
    (hk : ∀ h' l', HW h' nx base l' w → (b, Blk.cells z [[v]]) ∈ l' → (∀ p ∈ l, p.1 ≠ b → p ∈ l') → K h') : storeF False (hide ids (h.look m)) 1 (.p b 0 0) v fun g => hb (back h ids g) K := by
  have hfar : lany (Nat.beq far) ids = false := by
    rw [lany_eq, List.any_eq_false]
    intro k hk
    have := (hids k hk).2
    have hne : ¬ far = k := by have := far_big this; omega
    simpa using hne
  obtain ⟨g1, g2, g3, g4⟩ := hw.hs.has _ hbl
  have hnb : b ∉ ids := fun e => by have := (hids b e).1; omega
  have hg : (hide ids (h.look m)).get b = .cells z [e] := by
    unfold Heap.get Heap.see
    rw [(hide_win hfar _).1, Heap.lim_look, hw.hs.lim, blt_iff.2 g2]
    show (hide ids (h.look m)).raw b = _
    rw [hide_raw hfar _ hnb, Heap.raw_look]
    exact g4
  unfold storeF
  rw [h1, h2]
  show Option.rec (motive := fun _ => Prop) False (fun p : PB => Option.rec (motive := fun _ => Prop) False (fun e => Bool.rec (motive := fun _ => Prop) False (hb (back h ids (hsetF (hide ids (h.look m)) b (.cells p.1 (lset p.2 (lset e v 0) 0)))) K) (Nat.ble (Nat.succ 0) (llen e))) (elF p.2 0)) (blkC (hgetF (hide ids (h.look m)) b))
  rw [hgetF_eq, hg]
  show Bool.rec (motive := fun _ => Prop) False (hb (back h ids (hsetF (hide ids (h.look m)) b (.cells z (lset [e] (lset e v 0) 0)))) K) (Nat.ble (Nat.succ 0) (llen e))
  rw [llen_eq, he]
  show K (back h ids (hsetF (hide ids (h.look m)) b (.cells z [lset e v 0])))
  have hlv : lset e v 0 = [v] := by
    match e, he with
    | [a], _ => rfl
  rw [hlv, hsetF_eq]
  have hraw : ∀ k, (back h ids ((hide ids (h.look m)).set b (.cells z [[v]]))).raw k = if k = b then .cells z [[v]] else h.raw k := by
    intro k
    rw [back_raw hfar]
    by_cases hk1 : k ∈ ids
    · rw [if_pos hk1, if_neg (fun q : k = b => hnb (by rw [← q]; exact hk1))]
    · rw [if_neg hk1, Heap.raw_set]
      by_cases hk2 : k = b
      · rw [if_pos ⟨hk2, g3⟩, if_pos hk2]
      · rw [if_neg (fun e => hk2 e.1), if_neg hk2, hide_raw hfar _ hk1, Heap.raw_look]
  refine hk _ ((b, .cells z [[v]]) :: l.filter fun p => !(p.1 == b)) ⟨⟨?_, ?_, fun p hp => ?_⟩, fun p hp => ?_⟩ mem0 fun p hp hne => memS (List.mem_filter.2 ⟨hp, by simpa using hne⟩)
  · rw [back_next hfar, Heap.next_set, hide_next, Heap.next_look]; exact hw.hs.next
  · rw [back_win hfar, (Heap.win_set _ _ _).1, (hide_win hfar _).1, Heap.lim_look]; exact hw.hs.lim
  · rcases List.mem_cons.1 hp with rfl | hp
    · exact ⟨g1, g2, g3, by rw [hraw, if_pos rfl]⟩
    · rw [List.mem_filter] at hp
      have hne : p.1 ≠ b := by simpa using hp.2
      obtain ⟨q1, q2, q3, q4⟩ := hw.hs.has p hp.1
      exact ⟨q1, q2, q3, by rw [hraw, if_neg hne]; exact q4⟩
  · obtain ⟨q1, q2, q3, q4⟩ := hw.has p hp
    exact ⟨q1, q2, q3, by rw [hraw, if_neg (by omega)]; exact q4⟩
/-- An append out of a drawn region. -/
theorem wp_appW {ty e sz : Nat} {z : List AV} {i j m : Nat} {x : AV} {L src : List (List AV)} {sf bs : List (Nat × Blk)} {K : PK} (hP : slOf P ty = some (e, sz, z)) (hsl : isSlT P ty = true) (hby : Nat.ble (bytesOf P e) (2 ^ 20) = true)
    (hf : SlF x sz L sf bs) (hw : HW h nx base l w) (hsub : ∀ p ∈ sf, p ∈ l) (hi : (base + i, Blk.cells sz src) ∈ w) (hm : Nat.testBit m i = true) (hn : src.length = 1) (ho : onesAll src = true) (hlen : L.length + 1 ≤ 100000) (hj : base + j < nx) (hc : nx < cap) (hne : ∀ p ∈ w, p.1 ≠ base + j)
    (hk : ∀ h' l', HW h' nx base l' ((base + j, .cells sz (L ++ src)) :: w) → (∀ p ∈ l, (∀ q ∈ sf, p.1 ≠ q.1) → p ∈ l') → K (.sl (base + j) sz 0 (L.length + 1) (L.length + 1) false) h') :
    lb [] fun ids => appD False ids (Nat.add base j) (appendY P False (hide ids (h.look m)) (Nat.add base j) ty ty x (.sl (base + i) sz 0 1 1 true) fun v g => hb (back h ids g) fun h => K v h) := by
  show appendY P False (h.look m) (base + j) ty ty x (.sl (base + i) sz 0 1 1 true) fun v g => K v g
  have hmo : Nat.ble (llen src) most = true := ble_iff.2 (by rw [llen_eq, hn]; unfold most; omega)
  have hg1 : (h.look m).get (base + i) = .cells sz src := by rw [← hgetF_eq]; exact hw.get hi (by rw [Nat.add_sub_cancel_left]; exact hm)
  have helems : ∀ k : List (List AV) → Prop, k src → elemsA False (h.look m) sz (.sl (base + i) sz 0 1 1 true) k := by
    intro k hk
    unfold elemsA
    dsimp only
    rw [beq_iff.2 rfl, hg1]
    show bi (lhas (ltake (ldrop src 0) 1) 1) (k (ltake (ldrop src 0) 1)) False
    have e1 : ltake (ldrop src 0) 1 = src := by rw [ltake_eq, ldrop_eq]; simp [← hn]
    rw [e1, lhas_iff.2 hn]
    exact hk
  unfold appendY
  rw [hP]
  show bi (isSlT P ty && Nat.ble (bytesOf P e) (2 ^ 20)) (elemsA False (h.look m) sz (.sl (base + i) sz 0 1 1 true) fun src => append3 False (h.look m) (base + j) sz x src fun v g => K v g) False
  rw [hsl, hby]
  refine helems _ ?_
  have hq : hereQ (h.look m) x = false := by
    rcases hf with ⟨rfl, rfl, rfl⟩ | ⟨c, rfl, hL, rfl, hb⟩
    · rfl
    · have hg : (h.look m).get c = .cells sz L := by rw [← hgetF_eq]; exact (hw.hs.look m).get (hsub _ (by simp))
      show (match (h.look m).get c with | .cells _ el => !(Nat.beq 0 0 && lhas el L.length) | _ => false) = false
      rw [hg]
      show (!(Nat.beq 0 0 && lhas L L.length)) = false
      rw [lhas_iff.2 rfl]
      rfl
  have h2 : append3 False (h.look m) (base + j) sz x src (fun v g => K v g) = bi (onesAll src && Nat.ble (llen src) most) (bi (hereQ (h.look m) x) (putR False (h.look m) sz x src (llen src) fun v g => K v g) (appendE False (h.look m) (base + j) sz x src (llen src) fun v g => K v g)) False := by
    cases src with
    | nil => simp at hn
    | cons _ _ => rfl
  rw [h2, ho, hmo, hq]
  show appendE False (h.look m) (base + j) sz x src (llen src) fun v g => K v g
  rw [llen_eq, hn]
  rcases hf with ⟨rfl, rfl, rfl⟩ | ⟨c, rfl, hL, rfl, hb⟩
  · show K (appN (base + j) sz 1) ((h.look m).new (base + j) (.cells sz src))
    rw [← hnewF_eq]
    exact hk _ l ((hw.look m).new (by omega) hj (by omega) hne _) fun p hp _ => hp
  · show bi (Nat.beq sz sz && Nat.ble L.length most) (match (h.look m).get c with | .cells _ el => appendSl False (h.look m) (base + j) sz c 0 L.length false src 1 el fun v g => K v g | _ => False) False
    have hcm : (c, Blk.cells sz L) ∈ l := hsub _ (by simp)
    obtain ⟨g1, g2, g3, g4⟩ := hw.hs.has _ hcm
    have hg : (h.look m).get c = .cells sz L := by rw [← hgetF_eq]; exact (hw.hs.look m).get hcm
    rw [beq_iff.2 rfl, ble_iff.2 (show L.length ≤ most by unfold most; omega), hg]
    show bi (Nat.beq 0 0 && lhas L L.length) (K (appN (base + j) sz (L.length + 1)) (((h.look m).set c .none).new (base + j) (.cells sz (lapp L src)))) False
    rw [lhas_iff.2 rfl, lapp_eq]
    have hs1 : HW ((h.look m).set c .none) nx base (l.filter fun p => !(p.1 == c)) w := by
      refine ⟨⟨by rw [Heap.next_set, Heap.next_look]; exact hw.hs.next, by rw [(Heap.win_set _ _ _).1, Heap.lim_look]; exact hw.hs.lim, fun p hp => ?_⟩, fun p hp => ?_⟩
      · rw [List.mem_filter] at hp
        have hne : p.1 ≠ c := by simpa using hp.2
        obtain ⟨q1, q2, q3, q4⟩ := hw.hs.has p hp.1
        exact ⟨q1, q2, q3, by rw [Heap.raw_set, if_neg (fun e => hne e.1), Heap.raw_look]; exact q4⟩
      · obtain ⟨q1, q2, q3, q4⟩ := hw.has p hp
        exact ⟨q1, q2, q3, by rw [Heap.raw_set, if_neg (fun e => by omega), Heap.raw_look]; exact q4⟩
    have hs2 := hs1.new (b := base + j) (by omega) hj (by omega) hne (.cells sz (L ++ src))
    rw [hnewF_eq] at hs2
    exact hk _ _ hs2 fun p hp hq => List.mem_filter.2 ⟨hp, by simpa using hq (c, .cells sz L) (by simp)⟩
theorem wp_newED {i m sz n : Nat} {el : List (List AV)} {K : PK} (hw : HW h nx base l w) (hi : base + i < nx) (hc : nx < cap) (hn : ∀ p ∈ w, p.1 ≠ base + i) (hk : ∀ h', HW h' nx base l ((base + i, .cells sz el) :: w) → K (.sl (base + i) sz 0 n n true) h') : newEF (h.look m) (Nat.add base i) sz n el K := by
  show K (.sl (base + i) sz 0 n n true) (hnewF (h.look m) (base + i) (.cells sz el))
  exact hk _ ((hw.look m).new (by omega) hi (by omega) hn _)
/-- A whole element of a block of the region's own. -/
theorem wp_stDi {j m n z q : Nat} {el : List (List AV)} {e cs : List AV} {v : AV} {K : Heap → Prop} (hw : HW h nx base l w) (hb : (base + j, Blk.cells z el) ∈ w) (hm : Nat.testBit m j = true) (he : lnth el q = some e) (hv : v.cells = cs) (hn : cs.length = n) (hm2 : e.length = n) (ho : AV.ones cs = true)
    (w' : List (Nat × Blk)) (hl : ∀ p ∈ w', p ∈ w ∧ p.1 ≠ base + j) (hk : ∀ h', HW h' nx base l ((base + j, .cells z (lset el cs q)) :: w') → K h') : storeF False (h.look m) n (.p (base + j) q 0) v K := by
  rw [storeF_eq', hv]
  unfold storeN
  rw [lhas_iff.2 hn, ho]
  have hg : (h.look m).get (base + j) = .cells z el := by rw [← hgetF_eq]; exact hw.get hb (by rw [Nat.add_sub_cancel_left]; exact hm)
  show wrt False (h.look m) (.p (base + j) q 0) n cs K
  unfold wrt
  dsimp only
  rw [hg]
  show wrEl False (h.look m) (base + j) z el q 0 n cs K
  unfold wrEl
  rw [he]
  show bi (Nat.ble (0 + n) (llen e)) (K ((h.look m).set (base + j) (.cells z (lset el (newEl e cs 0 n) q)))) False
  rw [llen_eq, ble_iff.2 (by omega), ← hn, newEl_all (by omega), ← hsetF_eq]
  exact hk _ ((hw.look m).set hb _ w' hl)
end
theorem ownF_no {q : Bool} {args : List AV} {a : AV} (ha : a ∈ args) (hr : refs 10 a = true) : ownF q args = false := by
  have : lany (refs 10) args = true := by rw [lany_eq, List.any_eq_true]; exact ⟨a, ha, hr⟩
  show (Bool.rec (Bool.rec true false (lany rf10 args)) false q : Bool) = false
  rw [rf10_eq, this]
  cases q <;> rfl
/-! ### What a closure gathers -/
/-- A variable's block, what is gathered there so far, blocks that nobody touches. -/
def OutS (l : List (Nat × Blk)) (b : Nat) (L : List Expr) (bs : List (Nat × Blk)) : Prop :=
  ∃ x sf, (b, Blk.cells 1 [[x]]) ∈ l ∧ (∀ p ∈ sf, p ∈ l) ∧ (∀ p ∈ bs, p ∈ l ∧ p.1 ≠ b) ∧ SlF x 8 (cellsL L) sf ((b, .none) :: bs)
theorem OutS.more {h : Heap} {nx b : Nat} {l bs : List (Nat × Blk)} {L : List Expr} {y : Blk} (ho : OutS l b L bs) (hs : HS h nx far l) : OutS ((nx, y) :: l) b L ((nx, y) :: bs) := by
  obtain ⟨x, sf, h1, h2, h3, h4⟩ := ho
  have hb := (hs.has _ h1).1
  refine ⟨x, sf, memS h1, fun p hp => memS (h2 p hp), fun p hp => ?_, ?_⟩
  · rcases List.mem_cons.1 hp with rfl | hp
    · exact ⟨mem0, by show nx ≠ b; have : b < nx := hb; omega⟩
    · exact ⟨memS (h3 p hp).1, (h3 p hp).2⟩
  · rcases h4 with h | ⟨c, g1, g2, rfl, g4⟩
    · exact .inl h
    · have hc := (hs.has _ (h2 _ mem0)).1
      refine .inr ⟨c, g1, g2, rfl, fun p hp => ?_⟩
      rcases List.mem_cons.1 hp with rfl | hp
      · exact g4 _ mem0
      · rcases List.mem_cons.1 hp with rfl | hp
        · show nx ≠ c; have : c < nx := hc; omega
        · exact g4 p (memS hp)
theorem OutS.less {b : Nat} {l bs bs' : List (Nat × Blk)} {L : List Expr} (ho : OutS l b L bs) (hb : ∀ p ∈ bs', p ∈ bs) : OutS l b L bs' := by
  obtain ⟨x, sf, h1, h2, h3, h4⟩ := ho
  exact ⟨x, sf, h1, h2, fun p hp => h3 p (hb p hp), h4.sub fun p hp => by rcases List.mem_cons.1 hp with rfl | hp; exact mem0; exact memS (hb p hp)⟩
end Go.Zev

/-
  General proofs: expressions whose parts lie in blocks of the call's own.
-/
set_option linter.unusedVariables false
namespace Go.Zev
open Go
mutual
def LocE (l : List (Nat × Blk)) : Expr → List AV → Prop
  | .mk k n t nm ty tl es o nt, cs => ∃ x, cs = [.i .i64 k, .i .i32 n, t.av, nm.av, ty.av, x, o.av, .i .i64 nt] ∧
      (x = slA 8 tl (cellsL es) ∨ (tl = .fs ∧ ∃ c els, x = .sl c 8 0 els.length els.length false ∧ els ≠ [] ∧ (c, Blk.cells 8 els) ∈ l ∧ LocL l es els))
def LocL (l : List (Nat × Blk)) : List Expr → List (List AV) → Prop
  | [], els => els = []
  | e :: es, els => ∃ a r, els = a :: r ∧ LocE l e a ∧ LocL l es r
end
mutual
theorem LocE.mono {l l' : List (Nat × Blk)} (h : ∀ p ∈ l, p ∈ l') : ∀ (e : Expr) (cs : List AV), LocE l e cs → LocE l' e cs
  | .mk k n t nm ty tl es o nt, cs, hl => by
    rw [LocE] at hl ⊢
    obtain ⟨x, h1, h2⟩ := hl
    refine ⟨x, h1, h2.imp id fun ⟨g0, c, els, g1, g2, g3, g4⟩ => ⟨g0, c, els, g1, g2, h _ g3, LocL.mono h es els g4⟩⟩
theorem LocL.mono {l l' : List (Nat × Blk)} (h : ∀ p ∈ l, p ∈ l') : ∀ (es : List Expr) (els : List (List AV)), LocL l es els → LocL l' es els
  | [], els, hl => by rw [LocL] at hl ⊢; exact hl
  | e :: es, els, hl => by
    rw [LocL] at hl ⊢
    obtain ⟨a, r, h1, h2, h3⟩ := hl
    exact ⟨a, r, h1, LocE.mono h e a h2, LocL.mono h es r h3⟩
end
theorem LocE.data {l : List (Nat × Blk)} (e : Expr) : LocE l e e.cells := by
  cases e
  rw [LocE, Expr.cells]
  exact ⟨_, rfl, .inl rfl⟩
theorem LocE.ones {l : List (Nat × Blk)} {e : Expr} {cs : List AV} (h : LocE l e cs) : AV.ones cs = true ∧ cs.length = 8 := by
  cases e
  rw [LocE] at h
  obtain ⟨x, rfl, h⟩ := h
  refine ⟨ones_all fun c hc => ?_, rfl⟩
  simp only [List.mem_cons, List.not_mem_nil, or_false] at hc
  rcases hc with rfl | rfl | rfl | rfl | rfl | rfl | rfl | rfl <;> first | rfl | skip
  rcases h with rfl | ⟨_, c, els, rfl, _⟩
  · exact one_sl
  · rfl
theorem LocL.len {l : List (Nat × Blk)} : ∀ {es : List Expr} {els : List (List AV)}, LocL l es els → els.length = es.length
  | [], els, h => by rw [LocL] at h; subst h; rfl
  | e :: es, els, h => by
    rw [LocL] at h
    obtain ⟨a, r, rfl, _, h3⟩ := h
    rw [List.length_cons, List.length_cons, LocL.len h3]
theorem LocL.snoc {l : List (Nat × Blk)} {e : Expr} {cs : List AV} (he : LocE l e cs) : ∀ {es : List Expr} {els : List (List AV)}, LocL l es els → LocL l (es ++ [e]) (els ++ [cs])
  | [], els, h => by
    rw [LocL] at h
    subst h
    rw [List.nil_append, LocL]
    exact ⟨cs, [], rfl, he, by rw [LocL]⟩
  | x :: es, els, h => by
    rw [LocL] at h
    obtain ⟨a, r, rfl, h2, h3⟩ := h
    rw [List.cons_append, LocL]
    exact ⟨a, r ++ [cs], rfl, h2, LocL.snoc he h3⟩
mutual
theorem LocE.frzc {h : Heap} {nx : Nat} {l : List (Nat × Blk)} (hs : HS h nx far l) : ∀ (e : Expr) (cs : List AV) (n : Nat), LocE l e cs → e.deep ≤ n → lmapO (Go.Zev.frz h n) cs = some e.cells
  | .mk k nn t nm ty tl es o nt, cs, n, hl, hn => by
    rw [LocE] at hl
    obtain ⟨x, rfl, hx⟩ := hl
    rw [Expr.deep] at hn
    obtain ⟨n, rfl⟩ : ∃ m, n = m + 1 := ⟨n - 1, by omega⟩
    have key : Go.Zev.frz h (n + 1) x = some (slA 8 tl (cellsL es)) := by
      rcases hx with rfl | ⟨rfl, c, els, rfl, h2, h3, h4⟩
      · exact frz_sl _ _
      · have hg : h.get c = .cells 8 els := by rw [← hgetF_eq]; exact hs.get h3
        have e1 : ltake (ldrop els 0) els.length = els := by rw [ltake_eq, ldrop_eq]; simp
        show (match h.get c with | .cells _ el => (fun l : List (List AV) => (bi (lhas l els.length) (ob (lmapO (lmapO (Go.Zev.frz h n)) l) fun l => some (AV.fs 8 false l)) none : Option AV)) (ltake (ldrop el 0) els.length) | _ => none) = _
        rw [hg]
        show bi (lhas (ltake (ldrop els 0) els.length) els.length) (ob (lmapO (lmapO (Go.Zev.frz h n)) (ltake (ldrop els 0) els.length)) fun l => some (AV.fs 8 false l)) none = _
        rw [e1, lhas_iff.2 rfl, LocL.frzc hs es els n h4 (by omega)]
        have := h4.len
        cases es with
        | nil => simp at this; exact absurd this h2
        | cons _ _ => rw [cellsL]; rfl
    rw [Expr.cells]
    exact lmapO_cons (f := Go.Zev.frz h (n + 1)) rfl (lmapO_cons (f := Go.Zev.frz h (n + 1)) rfl (lmapO_cons (f := Go.Zev.frz h (n + 1)) rfl (lmapO_cons (f := Go.Zev.frz h (n + 1)) rfl (lmapO_cons (f := Go.Zev.frz h (n + 1)) rfl (lmapO_cons key (lmapO_cons (f := Go.Zev.frz h (n + 1)) rfl (lmapO_cons (f := Go.Zev.frz h (n + 1)) rfl lmapO_nil)))))))
theorem LocL.frzc {h : Heap} {nx : Nat} {l : List (Nat × Blk)} (hs : HS h nx far l) : ∀ (es : List Expr) (els : List (List AV)) (n : Nat), LocL l es els → deepL es ≤ n → lmapO (lmapO (Go.Zev.frz h n)) els = some (cellsL es)
  | [], els, n, hl, hn => by rw [LocL] at hl; subst hl; rw [cellsL]; rfl
  | e :: es, els, n, hl, hn => by
    rw [LocL] at hl
    obtain ⟨a, r, rfl, h2, h3⟩ := hl
    rw [deepL] at hn
    rw [cellsL]
    exact lmapO_cons (LocE.frzc hs e a n h2 (by omega)) (LocL.frzc hs es r n h3 (by omega))
end
theorem LocE.frz {h : Heap} {nx : Nat} {l : List (Nat × Blk)} (hs : HS h nx far l) {e : Expr} {cs : List AV} {n : Nat} (hl : LocE l e cs) (hn : e.deep ≤ n) : Go.Zev.frz h (n + 1) (.agg cs) = some e.av := frz_cells (LocE.frzc hs e cs n hl hn)
/-! What is left to pass over, as the program keeps it. -/
def LV (t : TypeId) : Option Nat → AV
  | none => .nifc
  | some n => .ifc t (.i .i64 ((n : Nat) : Int))
/-- Cells within an element. -/
theorem wp_ldN_po {h : Heap} {nx lim : Nat} {l : List (Nat × Blk)} {b i o n z : Nat} {el : List (List AV)} {e c : List AV} {K : KA} (hs : HS h nx lim l) (hb : (b, Blk.cells z el) ∈ l) (he : lnth el i = some e) (hc : sub e o n = some c) (hk : K (.agg c)) : loadNF False h n (.p b i o) K := by
  show Option.rec (motive := fun _ => Prop) False _ (Option.rec none (fun el => Option.rec none (fun e => subF e o n) (elF el i)) (blkE (hgetF h b)))
  rw [hs.get hb]
  show Option.rec (motive := fun _ => Prop) False _ (Option.rec none (fun e => subF e o n) (elF el i))
  rw [elF_eq, he]
  show Option.rec (motive := fun _ => Prop) False _ (subF e o n)
  rw [subF_eq, hc]
  exact hk
theorem wp_nilc {b i o : Nat} {K : KA} (hk : K (.p b i o)) : nilChk False (.p b i o) K := hk
section
variable {P : Program} {h : Heap}
theorem wp_assert_t {ty : TypeId} {v : AV} {K : KA} (hc : isConc P ty = true) (hk : K (.tup [v, .b true])) : assertA P False (.ifc ty v) ty true K := by
  show bi (isConc P ty) (bi (Nat.beq ty ty) (K (.tup [v, .b true])) _) False
  rw [hc, beq_iff.2 rfl]
  exact hk
theorem wp_assert_nil {ty : TypeId} {z : AV} {K : KA} (hc : isConc P ty = true) (hz : zeroOf P ty = some z) (hk : K (.tup [z, .b false])) : assertA P False .nifc ty true K := by
  show bi (isConc P ty) (on False (zeroOf P ty) fun z => K (.tup [z, .b false])) False
  rw [hc, hz]
  exact hk
theorem wp_sub {t : TypeId} {a b c : Int} {K : KA} (hc : a - b = c) (h1 : -(2 ^ 63) ≤ c) (h2 : c < 2 ^ 63) (hk : K (.i .i64 c)) : binA P False .sub t (.i .i64 a) (.i .i64 b) K := by
  show K (.i .i64 (wr64 (a - b)))
  rw [hc, wr64_of h1 h2]
  exact hk
end
end Go.Zev

/-
  General proofs: a store, within a drawn region, into a block that was there, while other blocks are out of sight; calls with two arguments; two answers.
-/
set_option linter.unusedVariables false
namespace Go.Zev
open Go
theorem callIn2 {P : Program} {cfg : Cfg} {f : FuncId} {F : ∀ (α : Type), FT α 2} {a b : AV} {n : Nat} {h : Heap} {k : PK} (hg : Good P cfg f (entF P cfg f 2 F)) (hm : cfg.memo f = none) (ho : ownF (cfg.keep f) [a, b] = false)
    (hF : F Prop False (callF P False cfg n) n k a b h) : callF P False cfg (n + 1) f [a, b] h k := callIn hg hm ho hF
section
variable {P : Program} {h : Heap} {nx lim : Nat} {l : List (Nat × Blk)}
theorem no_far {ids : List Nat} (hids : ∀ k ∈ ids, k < cap) : lany (Nat.beq far) ids = false := by
  rw [lany_eq, List.any_eq_false]
  intro k hk
  have hne : ¬ far = k := by have := far_big (hids k hk); omega
  simpa using hne
theorem HS.hid {ids : List Nat} (hs : HS h nx lim l) (hf : lany (Nat.beq far) ids = false) (l' : List (Nat × Blk)) (hl : ∀ p ∈ l', p ∈ l ∧ p.1 ∉ ids) : HS (hide ids h) nx lim l' := by
  refine ⟨by rw [hide_next]; exact hs.next, by rw [(hide_win hf h).1]; exact hs.lim, fun p hp => ?_⟩
  obtain ⟨h1, h2⟩ := hl p hp
  obtain ⟨g1, g2, g3, g4⟩ := hs.has p h1
  exact ⟨g1, g2, g3, by rw [hide_raw hf h h2]; exact g4⟩
theorem HS.bck {ids : List Nat} {g : Heap} {lg : List (Nat × Blk)} (hs : HS h nx lim l) (hg : HS g nx lim lg) (hf : lany (Nat.beq far) ids = false) (l' : List (Nat × Blk)) (hl : ∀ p ∈ l', (p ∈ l ∧ p.1 ∈ ids) ∨ (p ∈ lg ∧ p.1 ∉ ids)) : HS (Go.Zev.back h ids g) nx lim l' := by
  refine ⟨by rw [back_next hf]; exact hg.next, by rw [back_win hf]; exact hg.lim, fun p hp => ?_⟩
  rcases hl p hp with ⟨h1, h2⟩ | ⟨h1, h2⟩
  · obtain ⟨g1, g2, g3, g4⟩ := hs.has p h1
    exact ⟨g1, g2, g3, by rw [back_raw hf, if_pos h2]; exact g4⟩
  · obtain ⟨g1, g2, g3, g4⟩ := hg.has p h1
    exact ⟨g1, g2, g3, by rw [back_raw hf, if_neg h2]; exact g4⟩
theorem wp_stO {b i n z m : Nat} {ids : List Nat} {el : List (List AV)} {e cs : List AV} {v : AV} {K : Heap → Prop} (hs : HS h nx lim l) (hbl : (b, Blk.cells z el) ∈ l) (hids : ∀ k ∈ ids, k ≠ b ∧ k < cap) (he : lnth el i = some e) (hv : v.cells = cs) (hn : cs.length = n) (hm : e.length = n) (ho : AV.ones cs = true)
    (hk : ∀ h' l', HS h' nx lim l' → (b, Blk.cells z (lset el cs i)) ∈ l' → (∀ p ∈ l, p.1 ≠ b → p ∈ l') → K h') : storeF False (hide ids (h.look m)) n (.p b i 0) v fun g => hb (back h ids g) K := by
  have hf := no_far fun k hk => (hids k hk).2
  have hnb : b ∉ ids := fun q => (hids b q).1 rfl
  have hs1 := (hs.look m).hid hf (l.filter fun p => !(ids.contains p.1)) (fun p hp => by rw [List.mem_filter] at hp; exact ⟨hp.1, by simpa using hp.2⟩)
  refine wp_stN' hs1 (List.mem_filter.2 ⟨hbl, by simpa using hnb⟩) he hv hn hm ho fun g lg hg hb2 hk2 => ?_
  refine wp_hb ?_
  refine hk _ (lg.filter (fun p => !(ids.contains p.1)) ++ l.filter fun p => ids.contains p.1) (hs.bck hg hf _ fun p hp => ?_) (List.mem_append.2 (.inl (List.mem_filter.2 ⟨hb2, by simpa using hnb⟩))) fun p hp hne => ?_
  · rcases List.mem_append.1 hp with hp | hp
    · rw [List.mem_filter] at hp; exact .inr ⟨hp.1, by simpa using hp.2⟩
    · rw [List.mem_filter] at hp; exact .inl ⟨hp.1, by simpa using hp.2⟩
  · by_cases hq : p.1 ∈ ids
    · exact List.mem_append.2 (.inr (List.mem_filter.2 ⟨hp, by simpa using hq⟩))
    · exact List.mem_append.2 (.inl (List.mem_filter.2 ⟨hk2 p (List.mem_filter.2 ⟨hp, by simpa using hq⟩) hne, by simpa using hq⟩))
/-- Two answers: one that lies in a block, one plain. -/
theorem wp_res2 {ty : Nat} {x y v : AV} {K : KA} (hx : loadA P none h ty x some = some v) (hk : K (.tup [v, y])) : on False (resV P h [(x, some ty), (y, none)]) K := by
  have e : lmapO (resOne P h) [(x, some ty), (y, none)] = some [v, y] := by
    show Option.rec (motive := fun _ => Option (List AV)) none (fun y' => Option.rec (motive := fun _ => Option (List AV)) none (fun ys => some (y' :: ys)) (some [y])) (loadA P none h ty x some) = _
    rw [hx]
  rw [resV_eq, e]
  exact hk
end
end Go.Zev

/-
  General proofs: how great, how deep an expression is in which a part was put.
-/
namespace Go.Zev
open Go
mutual
theorem put_deep (x : Expr) : ∀ (e : Expr) (s : Option Nat), (Expr.put x e s).1.deep ≤ e.deep + x.deep
  | .mk k n t nm ty tl l o nt, none => by
    rw [Expr.put, Expr.deep, Expr.deep]
    have := putsL_deep x l none; omega
  | .mk k n t nm ty tl l o nt, some 0 => by
    rw [Expr.put]
    show x.copy.deep ≤ _
    rw [Expr.copy_deep]; omega
  | .mk k n t nm ty tl l o nt, some (m + 1) => by
    rw [Expr.put, Expr.deep, Expr.deep]
    have := putsL_deep x l (some m); omega
theorem putsL_deep (x : Expr) : ∀ (l : List Expr) (s : Option Nat), deepL (putsL x l s).1 ≤ deepL l + x.deep
  | [], s => by rw [putsL]; show deepL [] ≤ _; rw [deepL]; omega
  | e :: l, s => by
    rw [putsL, deepL, deepL]
    have h1 := put_deep x e s
    have h2 := putsL_deep x l (Expr.put x e s).2
    omega
end
/-- What may be put yet. -/
def owe (x : Expr) : Option Nat → Nat
  | none => 0
  | some _ => x.size
mutual
theorem put_size (x : Expr) : ∀ (e : Expr) (s : Option Nat), (Expr.put x e s).1.size + owe x (Expr.put x e s).2 ≤ e.size + owe x s
  | .mk k n t nm ty tl l o nt, none => by
    rw [Expr.put]
    show Expr.size (.mk _ _ _ _ _ _ _ _ _) + owe x (putsL x l _).2 ≤ _
    rw [Expr.size, Expr.size]
    have := putsL_size x l none; omega
  | .mk k n t nm ty tl l o nt, some 0 => by
    rw [Expr.put]
    show x.copy.size + owe x none ≤ _ + x.size
    rw [Expr.copy_size]; show x.size + 0 ≤ _; omega
  | .mk k n t nm ty tl l o nt, some (m + 1) => by
    rw [Expr.put]
    show Expr.size (.mk _ _ _ _ _ _ _ _ _) + owe x (putsL x l _).2 ≤ _
    rw [Expr.size, Expr.size]
    have := putsL_size x l (some m)
    have e1 : owe x (some m) = owe x (some (m + 1)) := rfl
    omega
theorem putsL_size (x : Expr) : ∀ (l : List Expr) (s : Option Nat), sizeL (putsL x l s).1 + owe x (putsL x l s).2 ≤ sizeL l + owe x s
  | [], s => by rw [putsL]; exact Nat.le_refl _
  | e :: l, s => by
    rw [putsL]
    show sizeL ((Expr.put x e s).1 :: (putsL x l (Expr.put x e s).2).1) + owe x (putsL x l (Expr.put x e s).2).2 ≤ _
    rw [sizeL_cons, sizeL_cons]
    have h1 := put_size x e s
    have h2 := putsL_size x l (Expr.put x e s).2
    omega
end
mutual
theorem subs_le : ∀ (e s : Expr), s ∈ e.subs → s.size ≤ e.size ∧ s.deep ≤ e.deep
  | .mk k n t nm ty tl l o nt, s, h => by
    rw [Expr.subs] at h
    rcases List.mem_cons.1 h with h | h
    · rw [h, Expr.size, Expr.size, Expr.deep, Expr.deep, copyL_size, copyL_deep]; exact ⟨Nat.le_refl _, Nat.le_refl _⟩
    · have := subsL_le l s h
      rw [Expr.size, Expr.deep]; omega
theorem subsL_le : ∀ (l : List Expr) (s : Expr), s ∈ subsL l → s.size ≤ sizeL l ∧ s.deep ≤ deepL l
  | [], s, h => by rw [subsL] at h; cases h
  | e :: l, s, h => by
    rw [subsL] at h
    rw [sizeL_cons, deepL]
    rcases List.mem_append.1 h with h | h
    · have := subs_le e s h; omega
    · have := subsL_le l s h; omega
end
end Go.Zev

/-
  General proofs: conversions, remainders: a place out of any int.
-/
namespace Go.Zev
open Go
theorem wp_conv {P : Program} {s d : TypeId} {j k : IntKind} {a b : Int} {K : KA} (hc : convI P s d = some k) (hb : wr k a = b) (hk : K (.i k b)) : convA P False s d (.i j a) K := by
  show on False (convI P s d) (fun j => K (.i j (wr j a)))
  rw [hc]
  show K (.i k (wr k a))
  rw [hb]
  exact hk
theorem wp_rem {P : Program} {t : TypeId} {a b : Int} {K : KA} (hb : b ≠ 0) (hk : K (.i .u64 (a.tmod b))) : binA P False .rem t (.i .u64 a) (.i .u64 b) K := by
  show bi (ieq b 0) False (K (.i .u64 (a.tmod b)))
  have : ieq b 0 = false := by
    cases hq : ieq b 0 with
    | false => rfl
    | true => rw [ieq_iff] at hq; exact absurd (of_decide_eq_true hq) hb
  rw [this]
  exact hk
theorem wrap_u64_of (n : Int) : IntKind.wrap .u64 n = n % 2 ^ 64 := by simp [IntKind.wrap, IntKind.bits, IntKind.signed]
theorem wr_u64 (n : Int) : wr .u64 n = n % 2 ^ 64 := by rw [wr_eq, wrap_u64_of]
theorem wr_u64_nat {n : Nat} (h : n < 2 ^ 62) : wr .u64 (n : Int) = (n : Int) := by rw [wr_u64]; omega
theorem wr_i64_nat {n : Nat} (h : n < 2 ^ 62) : wr .i64 (n : Int) = (n : Int) := by rw [wr_eq, wrap_i64_of] <;> omega
/-- A place out of any int. -/
theorem place_of (a : Int) {n : Nat} (hn : 0 < n) : ∃ i : Nat, i < n ∧ (wr .u64 a).tmod (n : Int) = (i : Int) := by
  have h0 : 0 ≤ wr .u64 a := by rw [wr_u64]; omega
  refine ⟨((wr .u64 a).tmod (n : Int)).toNat, ?_, ?_⟩
  · have h1 := Int.tmod_lt_of_pos (wr .u64 a) (show (0 : Int) < n by omega)
    have h2 := Int.tmod_nonneg (n : Int) h0
    omega
  · have h2 := Int.tmod_nonneg (n : Int) h0
    omega
/-- int(uint(a) % uint(n)) -/
theorem wp_place {P : Program} {s1 d1 s2 d2 s3 d3 t : TypeId} {a : Int} {n : Nat} {K : KA} (c1 : convI P s1 d1 = some .u64) (c2 : convI P s2 d2 = some .u64) (c3 : convI P s3 d3 = some .i64) (hn : 0 < n) (hb : n < 2 ^ 62) (hk : ∀ i : Nat, i < n → K (.i .i64 (i : Int))) :
    convA P False s1 d1 (.i .i64 a) fun x => convA P False s2 d2 (.i .i64 (n : Int)) fun y => binA P False .rem t x y fun z => convA P False s3 d3 z K := by
  refine wp_conv c1 rfl ?_
  refine wp_conv c2 (wr_u64_nat hb) ?_
  refine wp_rem (by omega) ?_
  obtain ⟨i, hi, he⟩ := place_of a hn
  rw [he]
  exact wp_conv c3 (wr_i64_nat (by omega)) (hk i hi)
theorem callF_memo' {P : Program} {cfg : Cfg} {f : FuncId} {args : List AV} {v : AV} (hv : memoOf cfg f args = some v) (n : Nat) (h : Heap) (k : PK) (hk : k v h) : callF P False cfg (n + 1) f args h k := by
  have e1 : callF P False cfg (n + 1) f args h k = Option.rec (motive := fun _ => Prop) (on False (bodyOf P f) fun q => callB P False cfg (callF P False cfg n) (fun nv => runC P False (callF P False cfg n) nv n) f q args h k) (fun v => k v h) (memoOf cfg f args) := rfl
  rw [e1, hv]
  exact hk
mutual
theorem subs_room : ∀ (e : Expr) (i : Nat) (p : Expr), e.subs[i]? = some p → i + p.size ≤ e.size
  | .mk kd nn t nm ty tl l o nt, 0, p, hp => by
    rw [Expr.subs] at hp
    have hc : p = Expr.copy (.mk kd nn t nm ty tl l o nt) := by rw [Expr.copy]; simpa using hp.symm
    rw [hc, Expr.copy_size]; omega
  | .mk kd nn t nm ty tl l o nt, i + 1, p, hp => by
    rw [Expr.subs] at hp
    have hp : (subsL l)[i]? = some p := by simpa using hp
    have := subsL_room l i p hp
    rw [Expr.size]; omega
theorem subsL_room : ∀ (l : List Expr) (i : Nat) (p : Expr), (subsL l)[i]? = some p → i + p.size ≤ sizeL l
  | [], i, p, hp => by rw [subsL] at hp; simp at hp
  | e :: l, i, p, hp => by
    rw [subsL] at hp
    rw [sizeL_cons]
    by_cases hi : i < e.size
    · rw [List.getElem?_append_left (by rw [Expr.subs_len]; exact hi)] at hp
      have := subs_room e i p hp; omega
    · rw [List.getElem?_append_right (by rw [Expr.subs_len]; omega), Expr.subs_len] at hp
      have := subsL_room l _ p hp; omega
end
end Go.Zev
