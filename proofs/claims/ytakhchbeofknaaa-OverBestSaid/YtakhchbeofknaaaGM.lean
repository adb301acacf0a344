/-
  Printed by ob.py: heads as values; what a program of OverBest looks like, whatever methods its class A has.
-/
import Derived.Test.YtakhchbeofknaaaGB
set_option linter.unusedVariables false
set_option maxRecDepth 20000
namespace Go.Zev.Ob
open Go Go.Zev Go.Proofs
noncomputable def r0 : List AV := [.b false, .b false, .s 3 7630441, .s 1 102, .fs 2 true [[.s 3 7630441, .s 1 97], [.s 3 7630441, .s 1 98]], .nsl]
noncomputable def r1 : List AV := [.b false, .b false, .s 3 7630441, .s 1 102, .fs 2 true [[.s 3 7630441, .s 1 97], [.s 1 65, .s 1 98]], .nsl]
noncomputable def r2 : List AV := [.b false, .b false, .s 3 7630441, .s 1 102, .fs 2 true [[.s 3 7630441, .s 1 97], [.s 1 66, .s 1 98]], .nsl]
noncomputable def r3 : List AV := [.b false, .b false, .s 3 7630441, .s 1 102, .fs 2 true [[.s 1 65, .s 1 97], [.s 3 7630441, .s 1 98]], .nsl]
noncomputable def r4 : List AV := [.b false, .b false, .s 3 7630441, .s 1 102, .fs 2 true [[.s 1 65, .s 1 97], [.s 1 65, .s 1 98]], .nsl]
noncomputable def r5 : List AV := [.b false, .b false, .s 3 7630441, .s 1 102, .fs 2 true [[.s 1 65, .s 1 97], [.s 1 66, .s 1 98]], .nsl]
noncomputable def r6 : List AV := [.b false, .b false, .s 3 7630441, .s 1 102, .fs 2 true [[.s 1 66, .s 1 97], [.s 3 7630441, .s 1 98]], .nsl]
noncomputable def r7 : List AV := [.b false, .b false, .s 3 7630441, .s 1 102, .fs 2 true [[.s 1 66, .s 1 97], [.s 1 65, .s 1 98]], .nsl]
noncomputable def r8 : List AV := [.b false, .b false, .s 3 7630441, .s 1 102, .fs 2 true [[.s 1 66, .s 1 97], [.s 1 66, .s 1 98]], .nsl]
noncomputable def pOf (m : AV) : AV := .agg [.fs 4 true [[.s 1 65, .s 0 0, .nsl, m], [.s 1 66, .s 1 65, .nsl, .nsl]]]
/-- The methods are none, or a slice of any. -/
def OkM (m : AV) : Prop := m = .nsl ∨ ∃ l, m = .fs 6 false l
noncomputable def rE (p : AV) (i : Int) (r : List AV) : Known := ⟨37, [p, .agg [.s 1 65, .i .i64 i]], .ifc 78 (.agg (.s 1 65 :: .i .i64 i :: r))⟩
noncomputable def a0 : AV := .nsl
noncomputable def a1 : AV := .fs 2 false [[.s 1 65, .i .i64 0]]
noncomputable def a2 : AV := .fs 2 false [[.s 1 65, .i .i64 0], [.s 1 65, .i .i64 1]]
noncomputable def a3 : AV := .fs 2 false [[.s 1 65, .i .i64 0], [.s 1 65, .i .i64 1], [.s 1 65, .i .i64 2]]
noncomputable def a4 : AV := .fs 2 false [[.s 1 65, .i .i64 0], [.s 1 65, .i .i64 1], [.s 1 65, .i .i64 2], [.s 1 65, .i .i64 3]]
noncomputable def a5 : AV := .fs 2 false [[.s 1 65, .i .i64 0], [.s 1 65, .i .i64 1], [.s 1 65, .i .i64 2], [.s 1 65, .i .i64 3], [.s 1 65, .i .i64 4]]
noncomputable def a6 : AV := .fs 2 false [[.s 1 65, .i .i64 0], [.s 1 65, .i .i64 1], [.s 1 65, .i .i64 2], [.s 1 65, .i .i64 3], [.s 1 65, .i .i64 4], [.s 1 65, .i .i64 5]]
noncomputable def a7 : AV := .fs 2 false [[.s 1 65, .i .i64 0], [.s 1 65, .i .i64 1], [.s 1 65, .i .i64 2], [.s 1 65, .i .i64 3], [.s 1 65, .i .i64 4], [.s 1 65, .i .i64 5], [.s 1 65, .i .i64 6]]
noncomputable def a8 : AV := .fs 2 false [[.s 1 65, .i .i64 0], [.s 1 65, .i .i64 1], [.s 1 65, .i .i64 2], [.s 1 65, .i .i64 3], [.s 1 65, .i .i64 4], [.s 1 65, .i .i64 5], [.s 1 65, .i .i64 6], [.s 1 65, .i .i64 7]]
noncomputable def a9 : AV := .fs 2 false [[.s 1 65, .i .i64 0], [.s 1 65, .i .i64 1], [.s 1 65, .i .i64 2], [.s 1 65, .i .i64 3], [.s 1 65, .i .i64 4], [.s 1 65, .i .i64 5], [.s 1 65, .i .i64 6], [.s 1 65, .i .i64 7], [.s 1 65, .i .i64 8]]
noncomputable def aE (p : AV) (v : AV) : Known := ⟨11, [p, .s 1 66, .s 1 102], v⟩
theorem inv_s {n l c : Nat} {y : AV} (h : avLe (n + 1) (.s l c) y = true) : y = .s l c := by
  cases y <;> first | (cases h; done) | skip
  rename_i m c'
  have h2 : (Bool.rec false (Nat.beq c c') (Nat.beq l m) : Bool) = true := h
  cases hq : Nat.beq l m with
  | false => rw [hq] at h2; cases h2
  | true => rw [hq] at h2; rw [beq_iff.1 hq, beq_iff.1 h2]
theorem inv_nsl {n : Nat} {y : AV} (h : avLe (n + 1) .nsl y = true) : y = .nsl := by
  have := isC_eq h
  cases y <;> first | rfl | (cases this; done)
theorem inv_agg {n : Nat} {c : List AV} {y : AV} (h : avLe (n + 1) (.agg c) y = true) : ∃ c', y = .agg c' ∧ leq (avLe n) c c' = true := by
  cases y <;> first | (cases h; done) | skip
  exact ⟨_, rfl, h⟩
theorem inv_fs {n z : Nat} {f : Bool} {e : List (List AV)} {y : AV} (h : avLe (n + 1) (.fs z f e) y = true) : ∃ e', y = .fs z f e' ∧ leq (leq (avLe n)) e e' = true := by
  cases y <;> first | (cases h; done) | skip
  rename_i z' f' e'
  have h2 : (Bool.rec false (Bool.rec false (leq (leq (avLe n)) e e') (Bool.rec (Bool.rec true false f') f' f)) (Nat.beq z z') : Bool) = true := h
  cases hq : Nat.beq z z' with
  | false => rw [hq] at h2; cases h2
  | true =>
    rw [hq] at h2
    cases hb : (Bool.rec (Bool.rec true false f') f' f : Bool) with
    | false => rw [hb] at h2; cases h2
    | true =>
      rw [hb] at h2
      rw [beq_iff.1 hq, bool_eq hb]
      exact ⟨_, rfl, h2⟩
/-- The methods of the first class. -/
noncomputable def methCell (v : AV) : AV :=
  Option.rec .un (fun c => List.rec .un (fun x _ _ => Option.rec .un (PF.rec fun _ _ e => List.rec .un (fun a _ _ => List.rec .un (fun _ t1 _ => List.rec .un (fun _ t2 _ => List.rec .un (fun _ t3 _ => List.rec .un (fun m _ _ => m) t3) t2) t1) a) e) (asFs x)) c) (asA v)
noncomputable def mOK (m : AV) : Bool := Bool.rec (Option.rec false (PF.rec fun z f _ => Bool.rec (Nat.beq z 6) false f) (asFs m)) true (isC 1 m)
theorem mOK_ok {m : AV} (h : mOK m = true) : OkM m := by
  cases m <;> first | exact .inl rfl | (cases h; done) | skip
  rename_i z f e
  cases f with
  | true => cases h
  | false =>
    have h2 : Nat.beq z 6 = true := h
    rw [beq_iff.1 h2]
    exact .inr ⟨_, rfl⟩
noncomputable def isP (v : AV) : Bool := Bool.rec false (mOK (methCell v)) (avLe 200 (pOf .un) v)
theorem isP_ok {v : AV} (h : isP v = true) : ∃ m, OkM m ∧ v = pOf m := by
  have h2 : (Bool.rec false (mOK (methCell v)) (avLe 200 (pOf .un) v) : Bool) = true := h
  cases hq : avLe 200 (pOf .un) v with
  | false => rw [hq] at h2; cases h2
  | true =>
    rw [hq] at h2
    obtain ⟨c, rfl, hc⟩ := inv_agg (n := 199) hq
    obtain ⟨x, t, rfl, hx, ht⟩ := leq_cons hc
    cases leq_nil ht
    obtain ⟨e, rfl, he⟩ := inv_fs (n := 198) hx
    obtain ⟨a, e1, rfl, ha, he⟩ := leq_cons he
    obtain ⟨b, e2, rfl, hb, he⟩ := leq_cons he
    cases leq_nil he
    obtain ⟨a1, a, rfl, h1, ha⟩ := leq_cons ha
    obtain ⟨a2, a, rfl, h3, ha⟩ := leq_cons ha
    obtain ⟨a3, a, rfl, h4, ha⟩ := leq_cons ha
    obtain ⟨a4, a, rfl, h5, ha⟩ := leq_cons ha
    cases leq_nil ha
    obtain ⟨b1, b, rfl, g1, hb⟩ := leq_cons hb
    obtain ⟨b2, b, rfl, g2, hb⟩ := leq_cons hb
    obtain ⟨b3, b, rfl, g3, hb⟩ := leq_cons hb
    obtain ⟨b4, b, rfl, g4, hb⟩ := leq_cons hb
    cases leq_nil hb
    rw [inv_s (n := 197) h1, inv_s (n := 197) h3, inv_nsl (n := 197) h4, inv_s (n := 197) g1, inv_s (n := 197) g2, inv_nsl (n := 197) g3, inv_nsl (n := 197) g4] at *
    exact ⟨a4, mOK_ok h2, rfl⟩
theorem findK_some : ∀ {l : List Known} {g : FuncId} {a : List AV} {v : AV}, findK l g a = some v → ∃ e, e ∈ l ∧ g = e.f ∧ avsLe e.args a = true ∧ v = e.v
  | [], _, _, _, h => by cases h
  | e :: l, g, a, v, h => by
    have h2 : (Bool.rec (findK l g a) (Bool.rec (findK l g a) (some e.v) (avsLe e.args a)) (Nat.beq g e.f) : Option AV) = some v := h
    have ih : findK l g a = some v → ∃ e', e' ∈ e :: l ∧ g = e'.f ∧ avsLe e'.args a = true ∧ v = e'.v := fun q => by
      obtain ⟨e', h1, h3⟩ := findK_some q
      exact ⟨e', List.mem_cons_of_mem _ h1, h3⟩
    cases hq : Nat.beq g e.f with
    | false => rw [hq] at h2; exact ih h2
    | true =>
      rw [hq] at h2
      cases hb : avsLe e.args a with
      | false => rw [hb] at h2; exact ih h2
      | true =>
        rw [hb] at h2
        have h3 : some e.v = some v := h2
        injection h3 with h3
        exact ⟨e, List.mem_cons_self .., beq_iff.1 hq, hb, h3.symm⟩
theorem int_eq {a b : Int} (h : eqF a b = true) : a = b := by
  rw [eqF_eq, ieq_eq] at h
  simpa using h
theorem op_eq {a b : BinOp} (h : Nat.beq a.ctorIdx b.ctorIdx = true) : a = b := by cases a <;> cases b <;> first | rfl | (cases h; done)
/-- The same table. -/
noncomputable def xtEq (a : XT) : XT → Bool :=
  XT.rec (motive := fun _ => XT → Bool)
    (fun b => XT.casesOn b true (fun _ _ => false) (fun _ => false) (fun _ _ => false) (fun _ _ _ _ _ => false) (fun _ _ _ => false))
    (fun k n b => XT.casesOn b false (fun k' n' => Bool.rec false (eqF n n') (Nat.beq k.ctorIdx k'.ctorIdx)) (fun _ => false) (fun _ _ => false) (fun _ _ _ _ _ => false) (fun _ _ _ => false))
    (fun _ _ => false)
    (fun k _ ih b => XT.casesOn b false (fun _ _ => false) (fun _ => false) (fun k' t => Bool.rec false (ih t) (Nat.beq k.ctorIdx k'.ctorIdx)) (fun _ _ _ _ _ => false) (fun _ _ _ => false))
    (fun o k c _ _ ih1 ih2 b => XT.casesOn b false (fun _ _ => false) (fun _ => false) (fun _ _ => false) (fun o' k' c' r n => Bool.rec false (Bool.rec false (Bool.rec false (Bool.rec false (ih2 n) (ih1 r)) (eqF c c')) (Nat.beq k.ctorIdx k'.ctorIdx)) (Nat.beq o.ctorIdx o'.ctorIdx)) (fun _ _ _ => false))
    (fun _ _ _ _ _ _ => false) a
theorem rec_true {a b : Bool} (h : (Bool.rec false a b : Bool) = true) : b = true ∧ a = true := by cases b with | false => cases h | true => exact ⟨rfl, h⟩
theorem kind_eq {a b : IntKind} (h : Nat.beq a.ctorIdx b.ctorIdx = true) : a = b := ikEq_iff.1 h
theorem xtEq_eq : ∀ (a b : XT), xtEq a b = true → a = b
  | .nil, b, h => by cases b <;> first | rfl | (cases h; done)
  | .lit k n, b, h => by
    cases b <;> first | (cases h; done) | skip
    obtain ⟨h1, h2⟩ := rec_true h
    rw [kind_eq h1, int_eq h2]
  | .bl _, b, h => by cases h
  | .ix k t, b, h => by
    cases b <;> first | (cases h; done) | skip
    obtain ⟨h1, h2⟩ := rec_true h
    rw [kind_eq h1, xtEq_eq t _ h2]
  | .bin o k c r n, b, h => by
    cases b <;> first | (cases h; done) | skip
    obtain ⟨h1, h⟩ := rec_true h
    obtain ⟨h2, h⟩ := rec_true h
    obtain ⟨h3, h⟩ := rec_true h
    obtain ⟨h4, h5⟩ := rec_true h
    rw [op_eq h1, kind_eq h2, int_eq h3, xtEq_eq r _ h4, xtEq_eq n _ h5]
  | .cv _ _ _, b, h => by cases h
/-- A number of which that table is known. -/
noncomputable def isX (T : XT) : AV → Bool := @AV.rec (fun _ => Bool) (fun _ => Unit) (fun _ => Unit)
  (false) (fun _ => false) (fun _ _ => false) (fun k _ t => Bool.rec false (xtEq T t) (Nat.beq IntKind.i64.ctorIdx k.ctorIdx)) (fun _ _ => false) (false) (fun _ _ _ => false) (fun _ _ => false) (false) (false) (fun _ _ _ _ _ _ => false) (fun _ _ _ _ => false) (false) (fun _ => false) (fun _ _ _ _ _ => false) (false) (fun _ _ _ => false) (false) (fun _ _ => false) (fun _ _ => false) (fun _ => false) (fun _ _ => false) () (fun _ _ _ _ => ()) () (fun _ _ _ _ => ())
theorem isX_eq {T : XT} {x : AV} (h : isX T x = true) : ∃ z, x = .xi .i64 z T := by
  cases x <;> first | (cases h; done) | skip
  obtain ⟨h1, h2⟩ := rec_true h
  rw [← kind_eq h1, ← xtEq_eq _ _ h2]
  exact ⟨_, rfl⟩
noncomputable def headM (T : XT) (p : AV) (a : List AV) : Option AV := List.rec none (fun x t _ => List.rec (Bool.rec none (some p) (isX T x)) (fun _ _ _ => none) t) a
theorem headM_some {T : XT} {p : AV} {a : List AV} {v : AV} (h : headM T p a = some v) : ∃ z, a = [.xi .i64 z T] ∧ v = p := by
  cases a with
  | nil => cases h
  | cons x t =>
    cases t with
    | cons _ _ => cases h
    | nil =>
      have h2 : (Bool.rec none (some p) (isX T x) : Option AV) = some v := h
      cases hq : isX T x with
      | false => rw [hq] at h2; cases h2
      | true =>
        rw [hq] at h2
        obtain ⟨z, rfl⟩ := isX_eq hq
        exact ⟨z, rfl, by cases h2; rfl⟩
/-- Answers that hold whatever methods the program's class A has: the program first, the others as listed. -/
noncomputable def tailK (l : List Known) (g : FuncId) (a : List AV) : Option AV := List.rec none (fun v t _ => Bool.rec none (findK l g t) (isP v)) a
def AllP (l : List Known) : Prop := ∀ e, e ∈ l → ∀ m, OkM m → Fact Try.prog e.f (pOf m :: e.args) e.v
theorem AllP.nil : AllP [] := fun _ h => by cases h
theorem AllP.cons {l : List Known} {f : FuncId} {args : List AV} {v : AV} (h : ∀ m, OkM m → Fact Try.prog f (pOf m :: args) v) (hl : AllP l) : AllP (⟨f, args, v⟩ :: l) := fun e he => by
  cases he with
  | head => exact h
  | tail _ h2 => exact hl e h2
theorem tailK_fact {l : List Known} (hl : AllP l) {g : FuncId} {a : List AV} {v : AV} (h : tailK l g a = some v) : Fact Try.prog g a v := by
  cases a with
  | nil => cases h
  | cons x t =>
    have h2 : (Bool.rec none (findK l g t) (isP x) : Option AV) = some v := h
    cases hq : isP x with
    | false => rw [hq] at h2; cases h2
    | true =>
      rw [hq] at h2
      obtain ⟨m, hm, rfl⟩ := isP_ok hq
      obtain ⟨e, he, rfl, ha, rfl⟩ := findK_some h2
      intro G hh w φ vs hr hv
      refine hl e he m hm G hh w φ vs hr ?_
      rw [VReps] at hv ⊢
      obtain ⟨u, us, e1, q1, q2⟩ := hv
      exact ⟨u, us, e1, q1, leq_V (avLe_V 200) _ _ _ (by rw [← leqT_eq]; exact ha) q2⟩
theorem fact2 {f : FuncId} {args : List AV} {v : AV} (h1 : own (cfg fun _ => none) f (pOf .nsl :: args) = true) (h2 : ∀ l, own (cfg fun _ => none) f (pOf (.fs 6 false l) :: args) = true)
    (h3 : goV Try.prog (cfg fun _ => none) (tab fun _ => none) 4000 f (pOf .nsl :: args) = some v) (h4 : ∀ l, goV Try.prog (cfg fun _ => none) (tab fun _ => none) 4000 f (pOf (.fs 6 false l) :: args) = some v) (hp : pnB v = false) :
    ∀ m, OkM m → Fact Try.prog f (pOf m :: args) v := fun m hm => by
  rcases hm with rfl | ⟨l, rfl⟩
  · exact goV_fact follows ok0 tab_ok h1 h3 hp
  · exact goV_fact follows ok0 tab_ok (h2 l) (h4 l) hp
end Go.Zev.Ob
