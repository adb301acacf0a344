/-
  suite.Show at the two tests that the law asks of: a known answer.
-/
import Derived.Test.YtaidendlmkpajaaGreatDoorGB
import Derived.Test.YtaidendlmkpajaaGreatDoorGV1
set_option linter.unusedVariables false
namespace Go.Zev.Su
open Go Go.Zev Go.Proofs Go.RowKit
theorem strInfo : (Tryz.prog.info? 9).map (fun i => (i.zero, i.size, i.bytes)) = some (some (.string ByteArray.empty), 1, 16) := by kernel_rfl
theorem ext_below {w w' : World} (h : Below w.heap.size w w') : Ext noBad w w' :=
  ⟨h.os, h.tape, h.output, h.size, fun k hk _ => h.block k hk, fun a ha => by unfold World.frozen?; rw [h.block _ ha]⟩
noncomputable def rowsAV (l : List (List UInt8 × List UInt8)) : List (List AV) := l.map fun r => [textOf r.1, textOf r.2]
theorem rows_cells {w : World} {bad : Bad} {b : Nat} : ∀ (l : List (List UInt8 × List UInt8)) (off : Nat), FEls w bad 2 b off (rowsAV l) →
    ∀ (i : Nat) (r : List UInt8 × List UInt8), l[i]? = some r → w.cell? ⟨b, off + i * 2, none⟩ = some (.string ⟨r.1.toArray⟩) ∧ w.cell? ⟨b, off + i * 2 + 1, none⟩ = some (.string ⟨r.2.toArray⟩)
  | [], _, _, _, _, h => by simp at h
  | x :: l, off, hf, i, r, h => by
    have hf : FEls w bad 2 b off ([textOf x.1, textOf x.2] :: rowsAV l) := hf
    rw [FEls] at hf
    obtain ⟨⟨_, hc⟩, hr⟩ := hf
    cases i with
    | zero =>
      have hx : x = r := by simpa using h
      subst hx
      rw [FCells] at hc
      obtain ⟨⟨u, h1, _, h2⟩, hc⟩ := hc
      rw [FCells] at hc
      obtain ⟨⟨u2, h3, _, h4⟩, _⟩ := hc
      rw [text_of h2] at h1
      rw [text_of h4] at h3
      exact ⟨by simpa using h1, by simpa using h3⟩
    | succ i =>
      have := rows_cells l (off + 2) hr i r (by simpa using h)
      rw [show off + (i + 1) * 2 = off + 2 + i * 2 by omega]
      exact this
theorem show_facts {l : List (List UInt8 × List UInt8)} {f : Bool} (hne : l ≠ []) (hl : (showB l).length ≤ 1000000) : Fact Tryz.prog 7 [.fs 2 f (rowsAV l)] (textOf (showB l)) := fun G h w φ vs hr hv => by
  refine ⟨enter_body Tryz.func7 rfl rfl, ?_⟩
  rw [VReps] at hv
  obtain ⟨u, us, e, h1, h2⟩ := hv
  rw [VReps] at h2
  subst h2
  rw [VRep, FRep] at h1
  obtain ⟨a, n, rfl, _, _, h3⟩ := h1
  obtain ⟨b, off, rfl, hc⟩ := h3 (by unfold rowsAV; simpa using hne)
  have e2 : vs = #[.slice (some ⟨b, off, none⟩) l.length n] := by
    have : (rowsAV l).length = l.length := by unfold rowsAV; simp
    cases vs; simp_all
  subst e2
  refine (show_walk l b off n w (rows_cells l off hc) hl).mono fun e w' ⟨he, hb⟩ => ?_
  exact ⟨_, φ, he, FRep.toV _ _ _ (of_text _), ext_own (ext_below hb) noBad_none hr⟩
theorem show_fact : Fact Tryz.prog 7 [.fs 2 false [[.s 1 65, .s 1 116], [.s 1 66, .s 1 117]]] (.s 10 49386129623935985793601) :=
  (show_facts (l := [([65], [116]), ([66], [117])]) (f := false) (by decide) (by decide)).to (by kernel_rfl) (by kernel_rfl)
end Go.Zev.Su
