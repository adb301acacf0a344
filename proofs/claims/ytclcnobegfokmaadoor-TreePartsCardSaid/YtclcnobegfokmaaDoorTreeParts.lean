/-
  TreeParts: whatever two expressions and two lists of statements it is given, the law returns true; nothing that was there is changed.
-/
import Derived.Test.YtclcnobegfokmaaDoorRows
import Derived.Test.YtclcnobegfokmaaDoorGS
import Derived.Test.YtclcnobegfokmaaDoorZ4
import Derived.WalkKit
import Derived.ProofKit
import Derived.OpenShut
import Derived.Lay
import Derived.LaidMore
import Derived.Stop.Joined
import Derived.SevenTiedAt
import Derived.Test.YtclcnobegfokmaaDoorCards
import Derived.Test.YtclcnobegfokmaaDoorTie
namespace Go.Proofs.YtclcnobegfokmaaDoor.treeParts
open Go.ChangeShapes Go.WideShapes Go.ChangeAt Go.RowKit
set_option linter.unusedVariables false

theorem own : ownKnob Tryd.prog.godebug = none := by kernel_rfl

/-! ### What it is handed -/
open Go.Zev in
theorem api : ∃ X : ApiS Tryd.prog, X.e = 24 ∧ X.t = 54 ∧ X.es = 22 ∧ X.ts = 25 :=
  ⟨{ b := 4, i := 3, n := 21, s := 9, e := 24, es := 22, fe := _, hb := Tryd.underlying4, hi := Tryd.underlying3, hn := Tryd.underlying21, hs := Tryd.underlying9, he := Tryd.underlying24, hes := Tryd.underlying22, hfe := by kernel_rfl, hce := by kernel_rfl, t := 54, ts := 25, ft := _, ht := Tryd.underlying54, hts := Tryd.underlying25, hft := by kernel_rfl, hct := by kernel_rfl }, rfl, rfl, rfl, rfl⟩
set_option maxRecDepth 100000 in
open Go.Zev in
theorem plain : Plain Tryd.prog (List.contains [4, 3, 21, 9, 24, 22, 54, 25]) := plain_of (by kernel_rfl)
/-- What the listed variables hold. -/
noncomputable def laids : List (String × DataW Unit) := Rows.treePartsRow.laid
/-! ### THE ROW's STEP -/
set_option maxRecDepth 100000 in
theorem lifted (os : Os) (started : os.Started) (H : Type) (enc : TypeId × Value → H) :
    ReturnsInHanded {} Tryd.checked os 3 .any (fun w args => (Rows.treePartsSpec.pre enc Tryd.prog Tryd.f3 [] false w args ∧ laidMetH Tryd.prog laids w) ∧ sizedMet enc Tryd.prog Tryd.f3 (OpenSpec.ofChange Rows.treePartsSpec) false w args)
      (Rows.treePartsSpec.post enc Tryd.prog Tryd.f3 false true false false) := by
  refine returnsInHanded_of_change_and (C := Tryd.checked) (X := fun w _ => laidMetH Tryd.prog laids w) (fun _ _ _ hh h => h.of_heap hh) own started (by kernel_rfl) Tryd.func3
    (ChangeSpec.witness_shaped (enc := enc) (C := Tryd.checked) (os := os) (X := fun w _ => laidMetH Tryd.prog laids w) false (World.laidAll Tryd.prog os laids) #[Go.Value.agg #[Go.Value.int Go.IntKind.i64 0, Go.Value.int Go.IntKind.i32 0, Go.Value.string { data := #[] }, Go.Value.string { data := #[] }, Go.Value.string { data := #[] }, Go.Value.slice none 0 0, Go.Value.string { data := #[] }, Go.Value.int Go.IntKind.i64 0], Go.Value.agg #[Go.Value.int Go.IntKind.i64 0, Go.Value.int Go.IntKind.i32 0, Go.Value.string { data := #[] }, Go.Value.string { data := #[] }, Go.Value.string { data := #[] }, Go.Value.slice none 0 0, Go.Value.string { data := #[] }, Go.Value.int Go.IntKind.i64 0], Go.Value.slice none 0 0, Go.Value.slice none 0 0] 8 (World.laidAll_os _ _ _)
      (World.shaped_of_ZipB (by kernel_rfl) (by kernel_rfl)) (by kernel_rfl) (by kernel_rfl) (by kernel_rfl)
      (by rw [MakeChecks.laidMetH_plain _ _ _ (by kernel_rfl)]; exact laidMet_laidAll _ (by kernel_rfl) (by kernel_rfl))) ?_
  intro W base args ds gs before hval0 hW _ _ hL _
  have hval : ∀ (j : Nat) t v, Tryd.f3.params[j]? = some t → args[j]? = some v → Value.okWide Tryd.prog W .any base t v := hval0
  have hW' := hW
  obtain ⟨p, q, hA0, hV, rfl, hfz, hnd⟩ := hW
  have hA : DataW.TrodAll enc Tryd.prog W 0 (fun _ => true) true Tryd.f3.params.toList args.toList ds p := hA0
  rw [Tryd.params3] at hA hval
  obtain ⟨v0, vs0, d0, ds0, p0, q0, hargs, rfl, rfl, h0, r0⟩ := trodAll_cons hA
  obtain ⟨v1, vs1, d1, ds1, p1, q1, rfl, rfl, rfl, h1, r1⟩ := trodAll_cons r0
  obtain ⟨v2, vs2, d2, ds2, p2, q2, rfl, rfl, rfl, h2, r2⟩ := trodAll_cons r1
  obtain ⟨v3, vs3, d3, ds3, p3, q3, rfl, rfl, rfl, h3, r3⟩ := trodAll_cons r2
  obtain ⟨rfl, rfl, rfl⟩ := trodAll_nil r3
  obtain rfl : args = #[v0, v1, v2, v3] := by cases args; simp_all
  obtain ⟨rfl, rfl⟩ := trodVars_none hV
  obtain ⟨X, xe, xt, xes, xts⟩ := api
  obtain ⟨n0, cs0, F0, S0⟩ := Go.Zev.arg_struct plain (by decide) Tryd.underlying24 (hval 0 24 v0 rfl rfl) h0
  obtain ⟨a0, rfl⟩ := Go.Zev.shp_expr X.toApiT _ _ (by rw [xe]; exact S0)
  obtain ⟨n1, cs1, F1, S1⟩ := Go.Zev.arg_struct plain (by decide) Tryd.underlying24 (hval 1 24 v1 rfl rfl) h1
  obtain ⟨a1, rfl⟩ := Go.Zev.shp_expr X.toApiT _ _ (by rw [xe]; exact S1)
  obtain ⟨n2, c2, F2, S2⟩ := Go.Zev.arg_slice plain (by decide) Tryd.underlying25 (hval 2 25 v2 rfl rfl) h2
  obtain ⟨g2, a2, rfl⟩ := Go.Zev.shp_stmts X (by rw [xts]; exact S2)
  obtain ⟨n3, c3, F3, S3⟩ := Go.Zev.arg_slice plain (by decide) Tryd.underlying25 (hval 3 25 v3 rfl rfl) h3
  obtain ⟨g3, a3, rfl⟩ := Go.Zev.shp_stmts X (by rw [xts]; exact S3)
  clear hA0 hval0
  have hwalk := Go.Zev.ev_calls Go.Zev.Dq.follows Go.Zev.Dq.ok1 (Go.Zev.Dq.law (n := 20000) (Nat.le_refl _) _ _ _ _ _ _) (w := W) (vs := #[v0, v1, v2, v3]) (Go.Zev.FReps.cons F0 (Go.Zev.FReps.cons F1 (Go.Zev.FReps.cons F2 (Go.Zev.FReps.cons F3 Go.Zev.FReps.nil))))
  have hlt : ∀ x : MemPlace, x ∈ (p0 ++ (p1 ++ (p2 ++ (p3 ++ [])))) → x.block < W.heap.size := fun x hx => by simpa using hW'.lt x (by simpa using hx)
  refine hwalk.mono fun e W' ⟨he, hg⟩ => ?_
  subst he
  exact ⟨_, rfl, post_of_same (pa := (p0 ++ (p1 ++ (p2 ++ (p3 ++ []))))) (pv := []) hW' (fun _ _ _ => (trodAll_cons_mk (shut_bool Tryd.underlying4 _) trodAll_mk0)) (fun sp hsp => (trodAll_cons_mk (Go.Zev.arg_stays (by kernel_rfl) (by kernel_rfl) (of_decide_eq_true (by kernel_rfl)) h0 hg (fun x hx => hlt x (by simp [hx])) (fun x hx => hsp x (by simp [hx]))) (trodAll_cons_mk (Go.Zev.arg_stays (by kernel_rfl) (by kernel_rfl) (of_decide_eq_true (by kernel_rfl)) h1 hg (fun x hx => hlt x (by simp [hx])) (fun x hx => hsp x (by simp [hx]))) (trodAll_cons_mk (Go.Zev.arg_stays (by kernel_rfl) (by kernel_rfl) (of_decide_eq_true (by kernel_rfl)) h2 hg (fun x hx => hlt x (by simp [hx])) (fun x hx => hsp x (by simp [hx]))) (trodAll_cons_mk (Go.Zev.arg_stays (by kernel_rfl) (by kernel_rfl) (of_decide_eq_true (by kernel_rfl)) h3 hg (fun x hx => hlt x (by simp [hx])) (fun x hx => hsp x (by simp [hx]))) trodAll_mk0))))) (fun _ _ => rfl) (by simp)
    (hg.frame _) hg.2.1 (ok_one (by kernel_rfl) rfl (okWide_bool_mk Tryd.underlying4 _))⟩

theorem over : Rows.treePartsRow.holds Tryd.pinned (OpenSpec.ofChange Rows.treePartsSpec) :=
  OpenClaim.holds_of_wide 3 Tryd.f3 rfl rfl rfl rfl rfl rfl rfl ⟨rfl, rfl, rfl, rfl, rfl⟩ rfl rfl rfl rfl rfl (by kernel_rfl) Tryd.func3 (by kernel_rfl)
    (of_decide_eq_true (by kernel_rfl)) (by unfold Func.isWrapper; first | (rw [if_pos (by decide +kernel)]; kernel_rfl) | (rw [if_neg (by decide +kernel)]; exact ⟨rfl, rfl⟩))
    (fun os started H enc _ => lifted os started H enc)

/-- ████ THE STATEMENT ████ -/
theorem proved : Rows.TreePartsCardSaid :=
  Claim7.holds_tied_plain_at .later [] [.data, .pinned] true (true, "cc2ff0978d2101c361f671884ce71ee9bdd52faa6aa890405df2785089957b08") true over (fun _ h => by cases h) (by kernel_rfl) (fun _ h => by cases h) treeParts_row_tie rfl ⟨rfl, rfl⟩ (by kernel_rfl) rfl
    (fun f fn hf hfn => by
      obtain rfl : f = 3 := Option.some.inj ((show Tryd.prog.funcNamed "changeling/changelinglaw3.TreeParts" = some 3 by kernel_rfl).symm.trans hf) |>.symm
      obtain rfl : fn = Tryd.f3 := (Option.some.inj (Tryd.func3.symm.trans hfn)).symm
      exact ⟨by kernel_rfl, fun j t ht => by
        rw [Tryd.params3] at ht
        have hm : t ∈ [24, 24, 25, 25] := by simpa using Array.mem_of_getElem? ht
        have hall : ([24, 24, 25, 25].all fun u => !Tryd.prog.wantsStandIn u) = true := by kernel_rfl
        exact (show Tryd.prog.wantsStandIn t = false by simpa using List.all_eq_true.1 hall t hm)⟩)
    (by kernel_rfl)
#print axioms proved
end Go.Proofs.YtclcnobegfokmaaDoor.treeParts
