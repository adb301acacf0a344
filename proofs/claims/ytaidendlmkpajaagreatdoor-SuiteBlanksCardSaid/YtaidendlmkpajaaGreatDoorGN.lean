/-
  Printed by waysSM.py: SuiteBlanks' own text, what strings.Split makes of it, the memory with that.
-/
import Derived.Test.YtaidendlmkpajaaGreatDoorK2
set_option linter.unusedVariables false
set_option maxRecDepth 20000
namespace Go.Zev.Su
open Go Go.Zev Go.Proofs
def bla (n : Nat) : List UInt8 := List.replicate n 32
def piece1 (a b : Nat) : List UInt8 := bla a ++ [65, 58, 58, 116] ++ bla b
def piece3 (a b : Nat) : List UInt8 := bla b ++ [66, 58, 58, 117] ++ bla a
def whole (a b c : Nat) : List UInt8 := piece1 a b ++ [10] ++ bla c ++ [10] ++ piece3 a b
theorem beqs : ∀ {l m : List UInt8}, (l == m) = true → l = m := fun h => by simpa using h
noncomputable def splits (a b c : Nat) : Bool := (Lib.splitK [10] 0 (Lib.countB ⟨(whole a b c).toArray⟩ ⟨[10].toArray⟩) (whole a b c) == [piece1 a b, bla c, piece3 a b]) && Nat.beq (Lib.countB ⟨(whole a b c).toArray⟩ ⟨[10].toArray⟩) 2 && Nat.ble (whole a b c).length 100
theorem splits_all : lall (fun a => lall (fun b => lall (fun c => splits a b c) (below 10)) (below 10)) (below 10) = true := by kernel_rfl
theorem split_way {a b c : Nat} (ha : a < 10) (hb : b < 10) (hc : c < 10) : Fact Tryz.prog 10 [textOf (whole a b c), textOf [10]] (piecesAV [piece1 a b, bla c, piece3 a b]) := by
  have h := lall_mem (lall_mem (lall_mem splits_all (mem_below ha)) (mem_below hb)) (mem_below hc)
  unfold splits at h
  rw [Bool.and_eq_true, Bool.and_eq_true] at h
  obtain ⟨⟨h1, h2⟩, h3⟩ := h
  have h2 := beq_iff.1 h2
  have h3 := Nat.le_of_ble_eq_true h3
  exact split_fact Tryz.lays146 strInfo hasMax (by omega) (by decide) (by simpa using h1) (by rw [h2]; rfl)
noncomputable def kw (a b c : Nat) : List Known := ⟨10, [textOf (whole a b c), textOf [10]], piecesAV [piece1 a b, bla c, piece3 a b]⟩ :: kl5
theorem kw_ok {a b c : Nat} (ha : a < 10) (hb : b < 10) (hc : c < 10) : AllKnown Tryz.prog (kw a b c) := .cons (split_way ha hb hc) kl5_ok
noncomputable abbrev mW (a b c : Nat) : FuncId → Option (List AV → Option AV) := memoL 5070602403278713659344331736448 (kw a b c)
noncomputable def wayN (x y z : Int) (a b c : Nat) : Bool := goT Tryz.prog (cfg (mW a b c)) (tab (mW a b c)) 4000 5 [.xi .i64 x (remX 10 a), .xi .i64 y (remX 10 b), .xi .i64 z (remX 10 c)]
end Go.Zev.Su
