/-
  Printed by ob.py: answers for any methods of A.
-/
import Derived.Test.YtakhchbeofknaaaGM
set_option linter.unusedVariables false
set_option maxRecDepth 20000
namespace Go.Zev.Ob
open Go Go.Zev Go.Proofs
theorem f_check : ∀ m, OkM m → Fact Try.prog 18 (pOf m :: []) (.tup [.i .i64 0, .i .i64 0]) := fact2 (by kernel_rfl) (fun l => by kernel_rfl) (by kernel_rfl) (fun l => by kernel_rfl) rfl
theorem f_sub00 : ∀ m, OkM m → Fact Try.prog 14 (pOf m :: [.s 3 7630441, .s 3 7630441]) (.b true) := fact2 (by kernel_rfl) (fun l => by kernel_rfl) (by kernel_rfl) (fun l => by kernel_rfl) rfl
theorem f_sub10 : ∀ m, OkM m → Fact Try.prog 14 (pOf m :: [.s 1 65, .s 3 7630441]) (.b false) := fact2 (by kernel_rfl) (fun l => by kernel_rfl) (by kernel_rfl) (fun l => by kernel_rfl) rfl
theorem f_sub20 : ∀ m, OkM m → Fact Try.prog 14 (pOf m :: [.s 1 66, .s 3 7630441]) (.b false) := fact2 (by kernel_rfl) (fun l => by kernel_rfl) (by kernel_rfl) (fun l => by kernel_rfl) rfl
theorem f_sub30 : ∀ m, OkM m → Fact Try.prog 14 (pOf m :: [.s 4 1819047278, .s 3 7630441]) (.b false) := fact2 (by kernel_rfl) (fun l => by kernel_rfl) (by kernel_rfl) (fun l => by kernel_rfl) rfl
theorem f_sub40 : ∀ m, OkM m → Fact Try.prog 14 (pOf m :: [.s 7 31069335677005666, .s 3 7630441]) (.b false) := fact2 (by kernel_rfl) (fun l => by kernel_rfl) (by kernel_rfl) (fun l => by kernel_rfl) rfl
theorem f_sub50 : ∀ m, OkM m → Fact Try.prog 14 (pOf m :: [.s 6 113723913172051, .s 3 7630441]) (.b false) := fact2 (by kernel_rfl) (fun l => by kernel_rfl) (by kernel_rfl) (fun l => by kernel_rfl) rfl
theorem f_sub60 : ∀ m, OkM m → Fact Try.prog 14 (pOf m :: [.s 2 31322, .s 3 7630441]) (.b false) := fact2 (by kernel_rfl) (fun l => by kernel_rfl) (by kernel_rfl) (fun l => by kernel_rfl) rfl
theorem f_sub01 : ∀ m, OkM m → Fact Try.prog 14 (pOf m :: [.s 3 7630441, .s 1 65]) (.b false) := fact2 (by kernel_rfl) (fun l => by kernel_rfl) (by kernel_rfl) (fun l => by kernel_rfl) rfl
theorem f_sub11 : ∀ m, OkM m → Fact Try.prog 14 (pOf m :: [.s 1 65, .s 1 65]) (.b true) := fact2 (by kernel_rfl) (fun l => by kernel_rfl) (by kernel_rfl) (fun l => by kernel_rfl) rfl
theorem f_sub21 : ∀ m, OkM m → Fact Try.prog 14 (pOf m :: [.s 1 66, .s 1 65]) (.b true) := fact2 (by kernel_rfl) (fun l => by kernel_rfl) (by kernel_rfl) (fun l => by kernel_rfl) rfl
theorem f_sub31 : ∀ m, OkM m → Fact Try.prog 14 (pOf m :: [.s 4 1819047278, .s 1 65]) (.b true) := fact2 (by kernel_rfl) (fun l => by kernel_rfl) (by kernel_rfl) (fun l => by kernel_rfl) rfl
theorem f_sub41 : ∀ m, OkM m → Fact Try.prog 14 (pOf m :: [.s 7 31069335677005666, .s 1 65]) (.b false) := fact2 (by kernel_rfl) (fun l => by kernel_rfl) (by kernel_rfl) (fun l => by kernel_rfl) rfl
theorem f_sub51 : ∀ m, OkM m → Fact Try.prog 14 (pOf m :: [.s 6 113723913172051, .s 1 65]) (.b false) := fact2 (by kernel_rfl) (fun l => by kernel_rfl) (by kernel_rfl) (fun l => by kernel_rfl) rfl
theorem f_sub61 : ∀ m, OkM m → Fact Try.prog 14 (pOf m :: [.s 2 31322, .s 1 65]) (.b false) := fact2 (by kernel_rfl) (fun l => by kernel_rfl) (by kernel_rfl) (fun l => by kernel_rfl) rfl
theorem f_sub02 : ∀ m, OkM m → Fact Try.prog 14 (pOf m :: [.s 3 7630441, .s 1 66]) (.b false) := fact2 (by kernel_rfl) (fun l => by kernel_rfl) (by kernel_rfl) (fun l => by kernel_rfl) rfl
theorem f_sub12 : ∀ m, OkM m → Fact Try.prog 14 (pOf m :: [.s 1 65, .s 1 66]) (.b false) := fact2 (by kernel_rfl) (fun l => by kernel_rfl) (by kernel_rfl) (fun l => by kernel_rfl) rfl
theorem f_sub22 : ∀ m, OkM m → Fact Try.prog 14 (pOf m :: [.s 1 66, .s 1 66]) (.b true) := fact2 (by kernel_rfl) (fun l => by kernel_rfl) (by kernel_rfl) (fun l => by kernel_rfl) rfl
theorem f_sub32 : ∀ m, OkM m → Fact Try.prog 14 (pOf m :: [.s 4 1819047278, .s 1 66]) (.b true) := fact2 (by kernel_rfl) (fun l => by kernel_rfl) (by kernel_rfl) (fun l => by kernel_rfl) rfl
theorem f_sub42 : ∀ m, OkM m → Fact Try.prog 14 (pOf m :: [.s 7 31069335677005666, .s 1 66]) (.b false) := fact2 (by kernel_rfl) (fun l => by kernel_rfl) (by kernel_rfl) (fun l => by kernel_rfl) rfl
theorem f_sub52 : ∀ m, OkM m → Fact Try.prog 14 (pOf m :: [.s 6 113723913172051, .s 1 66]) (.b false) := fact2 (by kernel_rfl) (fun l => by kernel_rfl) (by kernel_rfl) (fun l => by kernel_rfl) rfl
theorem f_sub62 : ∀ m, OkM m → Fact Try.prog 14 (pOf m :: [.s 2 31322, .s 1 66]) (.b false) := fact2 (by kernel_rfl) (fun l => by kernel_rfl) (by kernel_rfl) (fun l => by kernel_rfl) rfl
noncomputable def kP : List Known := [⟨18, [], .tup [.i .i64 0, .i .i64 0]⟩, ⟨14, [.s 3 7630441, .s 3 7630441], .b true⟩, ⟨14, [.s 1 65, .s 3 7630441], .b false⟩, ⟨14, [.s 1 66, .s 3 7630441], .b false⟩, ⟨14, [.s 4 1819047278, .s 3 7630441], .b false⟩, ⟨14, [.s 7 31069335677005666, .s 3 7630441], .b false⟩, ⟨14, [.s 6 113723913172051, .s 3 7630441], .b false⟩, ⟨14, [.s 2 31322, .s 3 7630441], .b false⟩, ⟨14, [.s 3 7630441, .s 1 65], .b false⟩, ⟨14, [.s 1 65, .s 1 65], .b true⟩, ⟨14, [.s 1 66, .s 1 65], .b true⟩, ⟨14, [.s 4 1819047278, .s 1 65], .b true⟩, ⟨14, [.s 7 31069335677005666, .s 1 65], .b false⟩, ⟨14, [.s 6 113723913172051, .s 1 65], .b false⟩, ⟨14, [.s 2 31322, .s 1 65], .b false⟩, ⟨14, [.s 3 7630441, .s 1 66], .b false⟩, ⟨14, [.s 1 65, .s 1 66], .b false⟩, ⟨14, [.s 1 66, .s 1 66], .b true⟩, ⟨14, [.s 4 1819047278, .s 1 66], .b true⟩, ⟨14, [.s 7 31069335677005666, .s 1 66], .b false⟩, ⟨14, [.s 6 113723913172051, .s 1 66], .b false⟩, ⟨14, [.s 2 31322, .s 1 66], .b false⟩]
theorem kP_ok : AllP kP := (AllP.cons f_check (AllP.cons f_sub00 (AllP.cons f_sub10 (AllP.cons f_sub20 (AllP.cons f_sub30 (AllP.cons f_sub40 (AllP.cons f_sub50 (AllP.cons f_sub60 (AllP.cons f_sub01 (AllP.cons f_sub11 (AllP.cons f_sub21 (AllP.cons f_sub31 (AllP.cons f_sub41 (AllP.cons f_sub51 (AllP.cons f_sub61 (AllP.cons f_sub02 (AllP.cons f_sub12 (AllP.cons f_sub22 (AllP.cons f_sub32 (AllP.cons f_sub42 (AllP.cons f_sub52 (AllP.cons f_sub62 AllP.nil))))))))))))))))))))))
noncomputable def m0 (l : List Known) : FuncId → Option (List AV → Option AV) := fun g =>
  Bool.rec (Bool.rec (Bool.rec none (some fun a => findK l g a) (Nat.beq (Nat.land (Nat.shiftRight 137438955520 g) 1) 1)) (some fun a => tailK kP g a) (Nat.beq (Nat.land (Nat.shiftRight 278528 g) 1) 1)) (some fun a => List.rec (some (.b true)) (fun _ _ _ => none) a) (Nat.beq g 9)
theorem m0_fact {l : List Known} (hl : AllKnown Try.prog l) {f : FuncId} {args : List AV} {av : AV} {g : List AV → Option AV} (hg : m0 l f = some g) (h : g args = some av) : Fact Try.prog f args av := by
  have hg' : (Bool.rec (Bool.rec (Bool.rec none (some fun a => findK l f a) (Nat.beq (Nat.land (Nat.shiftRight 137438955520 f) 1) 1)) (some fun a => tailK kP f a) (Nat.beq (Nat.land (Nat.shiftRight 278528 f) 1) 1)) (some fun a => List.rec (some (AV.b true)) (fun _ _ _ => none) a) (Nat.beq f 9) : Option (List AV → Option AV)) = some g := hg
  cases hf : Nat.beq f 9 with
  | true =>
    rw [hf] at hg'
    injection hg' with hg'
    subst hg'
    have := beq_iff.1 hf
    subst this
    cases args with
    | nil => cases h; exact told_fact
    | cons _ _ => cases h
  | false =>
    rw [hf] at hg'
    cases h2 : Nat.beq (Nat.land (Nat.shiftRight 278528 f) 1) 1 with
    | true =>
      rw [h2] at hg'
      injection hg' with hg'
      subst hg'
      exact tailK_fact kP_ok h
    | false =>
      rw [h2] at hg'
      cases h3 : Nat.beq (Nat.land (Nat.shiftRight 137438955520 f) 1) 1 with
      | true =>
        rw [h3] at hg'
        injection hg' with hg'
        subst hg'
        exact findK_fact hl h
      | false => rw [h3] at hg'; cases hg'
theorem okM0 {l : List Known} (hl : AllKnown Try.prog l) : CfgOK Try.prog (cfg (m0 l)) := okm fun f args av h => by
  unfold memoOf at h
  obtain ⟨g, hg, h⟩ := ob_prop h
  exact m0_fact hl hg h
noncomputable def mB (T : XT) (p : AV) (l : List Known) : FuncId → Option (List AV → Option AV) := fun g => Bool.rec (m0 l g) (some fun a => headM T p a) (Nat.beq g 4)
theorem okB {T : XT} {p : AV} {l : List Known} (hT : ∀ z, Fact Try.prog 4 [.xi .i64 z T] p) (hl : AllKnown Try.prog l) : CfgOK Try.prog (cfg (mB T p l)) := okm fun f args av h => by
  unfold memoOf at h
  obtain ⟨g, hg, h⟩ := ob_prop h
  have hg' : (Bool.rec (m0 l f) (some fun a => headM T p a) (Nat.beq f 4) : Option (List AV → Option AV)) = some g := hg
  cases hf : Nat.beq f 4 with
  | true =>
    rw [hf] at hg'
    injection hg' with hg'
    subst hg'
    obtain ⟨z, rfl, rfl⟩ := headM_some h
    rw [beq_iff.1 hf]
    exact hT z
  | false => rw [hf] at hg'; exact m0_fact hl hg' h
theorem fb {f : FuncId} {args : List AV} {v : AV} (ho : own (cfg (m0 [])) f args = true) (h : goV Try.prog (cfg (m0 [])) (tab (m0 [])) 4000 f args = some v) (hp : pnB v = false) : Fact Try.prog f args v := goV_fact follows (okM0 AllKnown.nil) tab_ok ho h hp
/-- The runs of some calls: each names no block, ends in its answer, which is no panic. -/
noncomputable def runsL (l : List Known) : List (Bool × Option AV × Bool) := l.map fun e => (own (cfg (m0 [])) e.f e.args, goV Try.prog (cfg (m0 [])) (tab (m0 [])) 4000 e.f e.args, pnB e.v)
theorem runs_ok : ∀ {l : List Known}, runsL l = l.map (fun e => (true, some e.v, false)) → AllKnown Try.prog l
  | [], _ => AllKnown.nil
  | e :: l, h => by
    have h1 : (own (cfg (m0 [])) e.f e.args, goV Try.prog (cfg (m0 [])) (tab (m0 [])) 4000 e.f e.args, pnB e.v) :: runsL l = (true, some e.v, false) :: l.map (fun e => (true, some e.v, false)) := h
    injection h1 with h2 h3
    injection h2 with h4 h5
    injection h5 with h5 h6
    exact AllKnown.cons (f := e.f) (args := e.args) (v := e.v) (fb h4 h5 h6) (runs_ok h3)
theorem lall_cons {β : Type} {p : β → Bool} {x : β} {l : List β} (h1 : p x = true) (h2 : lall p l = true) : lall p (x :: l) = true := by rw [lall_eq, List.all_cons, h1, ← lall_eq, h2]; rfl
/-- A choice of heads, any two types: the law tells true. -/
def Way (a0 a1 a2 : Int) (bs : List Bool) : Prop := ∃ p l, (∀ z, Fact Try.prog 4 [.xi .i64 z (maskX bs 0)] p) ∧ AllKnown Try.prog l ∧ lall (fun u => lall (fun v => goT Try.prog (cfg (mB (maskX bs 0) p l)) (tab (mB (maskX bs 0) p l)) 4000 3 [.xi .i64 a0 (maskX bs 0), .xi .i64 a1 (remX 7 u), .xi .i64 a2 (remX 7 v)]) (below 7)) (below 7) = true
end Go.Zev.Ob
