/-
  ChangeNests: whatever two expressions and two ints it is given, the law returns true; nothing that was there is changed.
-/
import Derived.Test.YtcgfedhoddmliaaGreatRows
import Derived.Test.YtcgfedhoddmliaaGreatGS
import Derived.Test.YtcgfedhoddmliaaGreatK2
import Derived.WalkKit
import Derived.ProofKit
import Derived.OpenShut
namespace Go.Proofs.YtcgfedhoddmliaaGreat.changeNests
open Go.ChangeShapes Go.WideShapes Go.ChangeAt Go.RowKit
set_option linter.unusedVariables false

theorem own : ownKnob Tryz.prog.godebug = none := by kernel_rfl

/-! ### What it is handed -/
open Go.Zev in
theorem api : ∃ X : ApiT Tryz.prog, X.e = 24 ∧ X.es = 22 :=
  ⟨{ b := 4, i := 3, n := 21, s := 9, e := 24, es := 22, fe := _, hb := Tryz.underlying4, hi := Tryz.underlying3, hn := Tryz.underlying21, hs := Tryz.underlying9, he := Tryz.underlying24, hes := Tryz.underlying22, hfe := by kernel_rfl, hce := by kernel_rfl }, rfl, rfl⟩
set_option maxRecDepth 100000 in
open Go.Zev in
theorem plain : Plain Tryz.prog (List.contains [4, 3, 21, 9, 24, 22]) := plain_of (by kernel_rfl)
/-! ### THE ROW's STEP -/
set_option maxRecDepth 100000 in
theorem lifted (os : Os) (started : os.Started) (H : Type) (enc : TypeId × Value → H) :
    ReturnsInHanded {} Tryz.checked os 3 .any (Rows.changeNestsSpec.pre6 enc Tryz.prog Tryz.f3 Rows.changeNestsRow.domain false) (Rows.changeNestsSpec.post enc Tryz.prog Tryz.f3 false true false false) := by
  refine returnsInHanded_of_change (C := Tryz.checked) own started (by kernel_rfl) Tryz.func3
    (ChangeSpec.witness6 (enc := enc) (C := Tryz.checked) false ⟨#[], #[Go.Value.agg #[Go.Value.int Go.IntKind.i64 0, Go.Value.int Go.IntKind.i32 0, Go.Value.string { data := #[] }, Go.Value.string { data := #[] }, Go.Value.string { data := #[] }, Go.Value.slice none 0 0, Go.Value.string { data := #[] }, Go.Value.int Go.IntKind.i64 0], Go.Value.int Go.IntKind.i64 0, Go.Value.int Go.IntKind.i64 0, Go.Value.agg #[Go.Value.int Go.IntKind.i64 0, Go.Value.int Go.IntKind.i32 0, Go.Value.string { data := #[] }, Go.Value.string { data := #[] }, Go.Value.string { data := #[] }, Go.Value.slice none 0 0, Go.Value.string { data := #[] }, Go.Value.int Go.IntKind.i64 0]], []⟩ 8 (by kernel_rfl) (by kernel_rfl) (by kernel_rfl) (by kernel_rfl)) ?_
  intro W base args ds gs before hval0 hW hcnd _
  have hval : ∀ (j : Nat) t v, Tryz.f3.params[j]? = some t → args[j]? = some v → Value.okWide Tryz.prog W .any base t v := hval0
  have hW' := hW
  obtain ⟨p, q, hA0, hV, rfl, hfz, hnd⟩ := hW
  have hA : DataW.TrodAll enc Tryz.prog W 0 (fun _ => true) true Tryz.f3.params.toList args.toList ds p := hA0
  rw [Tryz.params3] at hA hval
  obtain ⟨v0, vs0, d0, ds0, p0, q0, hargs, rfl, rfl, h0, r0⟩ := trodAll_cons hA
  obtain ⟨v1, vs1, d1, ds1, p1, q1, rfl, rfl, rfl, h1, r1⟩ := trodAll_cons r0
  obtain ⟨v2, vs2, d2, ds2, p2, q2, rfl, rfl, rfl, h2, r2⟩ := trodAll_cons r1
  obtain ⟨v3, vs3, d3, ds3, p3, q3, rfl, rfl, rfl, h3, r3⟩ := trodAll_cons r2
  obtain ⟨rfl, rfl, rfl⟩ := trodAll_nil r3
  obtain rfl : args = #[v0, v1, v2, v3] := by cases args; simp_all
  obtain ⟨rfl, rfl⟩ := trodVars_none hV
  obtain ⟨X, xe, xes⟩ := api
  obtain ⟨n0, cs0, F0, S0⟩ := Go.Zev.arg_struct plain (by decide) Tryz.underlying24 (hval 0 24 v0 rfl rfl) h0
  obtain ⟨a0, rfl⟩ := Go.Zev.shp_expr X _ _ (by rw [xe]; exact S0)
  have h1k := h1
  obtain ⟨a1, rfl, rfl, rfl, w1⟩ := open_int Tryz.underlying3 (hval 1 3 v1 rfl rfl) h1
  have h2k := h2
  obtain ⟨a2, rfl, rfl, rfl, w2⟩ := open_int Tryz.underlying3 (hval 2 3 v2 rfl rfl) h2
  obtain ⟨n3, cs3, F3, S3⟩ := Go.Zev.arg_struct plain (by decide) Tryz.underlying24 (hval 3 24 v3 rfl rfl) h3
  obtain ⟨a3, rfl⟩ := Go.Zev.shp_expr X _ _ (by rw [xe]; exact S3)
  clear hA0 hval0
  have hwalk := Go.Zev.ev_calls Go.Zev.Cn.follows Go.Zev.Cn.okAll (Go.Zev.Cn.law (n := 20000) (Nat.le_refl _) _ _ _ _) (w := W) (vs := #[v0, .int .i64 a1, .int .i64 a2, v3]) (Go.Zev.FReps.cons F0 (Go.Zev.FReps.cons (Go.Zev.FRep_int a1) (Go.Zev.FReps.cons (Go.Zev.FRep_int a2) (Go.Zev.FReps.cons F3 Go.Zev.FReps.nil))))
  have hlt : ∀ x : MemPlace, x ∈ (p0 ++ ([] ++ ([] ++ (p3 ++ [])))) → x.block < W.heap.size := fun x hx => by simpa using hW'.lt x (by simpa using hx)
  refine hwalk.mono fun e W' ⟨he, hg⟩ => ?_
  subst he
  exact ⟨_, rfl, post_of_same (pa := (p0 ++ ([] ++ ([] ++ (p3 ++ []))))) (pv := []) hW' (fun _ _ _ => (trodAll_cons_mk (shut_bool Tryz.underlying4 _) trodAll_mk0)) (fun sp hsp => (trodAll_cons_mk (Go.Zev.arg_stays (by kernel_rfl) (by kernel_rfl) (of_decide_eq_true (by kernel_rfl)) h0 hg (fun x hx => hlt x (by simp [hx])) (fun x hx => hsp x (by simp [hx]))) (trodAll_cons_mk (shut_int Tryz.underlying3 w1) (trodAll_cons_mk (shut_int Tryz.underlying3 w2) (trodAll_cons_mk (Go.Zev.arg_stays (by kernel_rfl) (by kernel_rfl) (of_decide_eq_true (by kernel_rfl)) h3 hg (fun x hx => hlt x (by simp [hx])) (fun x hx => hsp x (by simp [hx]))) trodAll_mk0))))) (fun _ _ => rfl) (by simp)
    (hg.frame _) hg.2.1 (ok_one (by kernel_rfl) rfl (okWide_bool_mk Tryz.underlying4 _))⟩

theorem over : Rows.changeNestsRow.holds Tryz.pinned (OpenSpec.ofChange Rows.changeNestsSpec) :=
  OpenClaim.holds_of_wide 3 Tryz.f3 rfl rfl rfl rfl rfl rfl rfl ⟨rfl, rfl, rfl, rfl, rfl⟩ rfl rfl rfl rfl rfl (by kernel_rfl) Tryz.func3 (by kernel_rfl)
    (of_decide_eq_true (by kernel_rfl)) (by unfold Func.isWrapper; first | (rw [if_pos (by decide +kernel)]; kernel_rfl) | (rw [if_neg (by decide +kernel)]; exact ⟨rfl, rfl⟩))
    (fun os started H enc _ => lifted os started H enc)

/-- ████ THE STATEMENT ████ -/
theorem proved : Rows.ChangeNestsSaid :=
  over
#print axioms proved
end Go.Proofs.YtcgfedhoddmliaaGreat.changeNests
