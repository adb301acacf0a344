/-
  Numbers that are not known: bits, remainders; all ways of a few; from a run to the call.
-/
import Derived.Test.YtkejeeabmknjiabDoorZ2

namespace Go.Zev
open Go
/-- A number's bit, as 'a >> c & 1' tells it. -/
def bitV (a : Int) (c : Nat) : Int := IntKind.wrap .i64 ((BitVec.ofInt 64 (a.fdiv (2 ^ (min c 64))) &&& BitVec.ofInt 64 1).toNat)
theorem bitV_01 (a : Int) (c : Nat) : bitV a c = 0 ∨ bitV a c = 1 := by
  unfold bitV
  generalize BitVec.ofInt 64 (a.fdiv (2 ^ (min c 64))) = x
  have h : (x &&& BitVec.ofInt 64 1).toNat = x.toNat % 2 := by
    rw [BitVec.toNat_and]
    show x.toNat &&& 1 = _
    exact Nat.and_one_is_mod _
  rw [h]
  rcases Nat.mod_two_eq_zero_or_one x.toNat with h | h <;> rw [h]
  · exact .inl rfl
  · exact .inr rfl
noncomputable def bitI (b : Bool) : Int := Bool.rec (.ofNat 0) (.ofNat 1) b
noncomputable def maskX (bs : List Bool) : Nat → XT :=
  List.rec (motive := fun _ => Nat → XT) (fun _ => .nil) (fun b _ ih c => .bin .shr .u64 (.ofNat c) (.ix .i64 (.bin .and .i64 (.ofNat 1) (.lit .i64 (bitI b)) .nil)) (ih (Nat.succ c))) bs
def bitsList (a : Int) : Nat → Nat → List Bool
  | 0, _ => []
  | n + 1, c => decide (bitV a c = 1) :: bitsList a n (c + 1)
theorem bitI_of (a : Int) (c : Nat) : bitI (decide (bitV a c = 1)) = bitV a c := by
  rcases bitV_01 a c with h | h <;> rw [h] <;> rfl
theorem maskX_ok (a : Int) : ∀ (n c : Nat), XOK (maskX (bitsList a n c) c) (.i .i64 a)
  | 0, _ => by show XOK .nil _; rw [XOK]; trivial
  | n + 1, c => by
    show XOK (.bin .shr .u64 (.ofNat c) (.ix .i64 (.bin .and .i64 (.ofNat 1) (.lit .i64 (bitI (decide (bitV a c = 1)))) .nil)) (maskX (bitsList a n (c + 1)) (c + 1))) _
    rw [XOK]
    refine ⟨⟨.i64, a, _, rfl, rfl, ?_⟩, maskX_ok a n (c + 1)⟩
    rw [XOK]
    refine ⟨_, rfl, ?_⟩
    rw [XOK]
    refine ⟨⟨.i64, _, _, rfl, rfl, ?_⟩, by rw [XOK]; trivial⟩
    rw [XOK, bitI_of]
    rfl
def allB : Nat → List (List Bool)
  | 0 => [[]]
  | n + 1 => (allB n).map (fun l => false :: l) ++ (allB n).map (fun l => true :: l)
theorem mem_allB : ∀ (l : List Bool), l ∈ allB l.length
  | [] => List.mem_singleton.2 rfl
  | b :: l => by
    refine List.mem_append.2 ?_
    cases b
    · exact .inl (List.mem_map.2 ⟨l, mem_allB l, rfl⟩)
    · exact .inr (List.mem_map.2 ⟨l, mem_allB l, rfl⟩)
theorem bitsList_length (a : Int) : ∀ (n c : Nat), (bitsList a n c).length = n
  | 0, _ => rfl
  | n + 1, c => by show (bitsList a n (c + 1)).length + 1 = n + 1; rw [bitsList_length]
theorem mem_bits (a : Int) (n c : Nat) : bitsList a n c ∈ allB n := by
  have := mem_allB (bitsList a n c)
  rwa [bitsList_length] at this
/-- 'uint(a) % m' -/
noncomputable def remV (a : Int) (m : Nat) : Nat := ((wr .u64 a).tmod (.ofNat m)).toNat
noncomputable def remX (m r : Nat) : XT := .cv .u64 (.ix .u64 (.bin .rem .u64 (.ofNat m) (.lit .u64 (.ofNat r)) .nil)) .nil
theorem u64_nonneg (a : Int) : 0 ≤ wr .u64 a := by
  show 0 ≤ IntKind.wrap .u64 a
  unfold IntKind.wrap
  simp only [IntKind.signed, IntKind.bits, Bool.false_and, Bool.false_eq_true, if_false]
  exact Int.emod_nonneg _ (by decide)
theorem remV_lt (a : Int) {m : Nat} (hm : 0 < m) : remV a m < m := by
  unfold remV
  have h1 := Int.tmod_lt_of_pos (wr .u64 a) (b := (m : Int)) (by omega)
  have h2 := Int.tmod_nonneg (m : Int) (u64_nonneg a)
  show ((wr .u64 a).tmod (m : Int)).toNat < m
  omega
theorem remV_eq (a : Int) (m : Nat) : ((remV a m : Nat) : Int) = (wr .u64 a).tmod (.ofNat m) := by
  unfold remV
  exact Int.toNat_of_nonneg (Int.tmod_nonneg _ (u64_nonneg a))
theorem remX_ok (a : Int) (m : Nat) (hm : 0 < m) : XOK (remX m (remV a m)) (.i .i64 a) := by
  unfold remX
  rw [XOK]
  refine ⟨⟨.i64, a, rfl, ?_⟩, by rw [XOK]; trivial⟩
  rw [XOK]
  refine ⟨_, rfl, ?_⟩
  rw [XOK]
  refine ⟨⟨.u64, _, .i .u64 ((wr .u64 a).tmod (.ofNat m)), rfl, ?_, ?_⟩, by rw [XOK]; trivial⟩
  · show bi (ieq (.ofNat m) 0) none (some (AV.i .u64 ((wr .u64 a).tmod (.ofNat m)))) = _
    have : ieq (.ofNat m) 0 = false := by
      show Nat.beq m 0 = false
      cases m with
      | zero => omega
      | succ m => rfl
    rw [this]
  · rw [XOK]
    have := remV_eq a m
    congr 1
    exact this.symm
/-- All numbers below. -/
def below : Nat → List Nat
  | 0 => []
  | n + 1 => n :: below n
theorem mem_below : ∀ {n k : Nat}, k < n → k ∈ below n
  | 0, _, h => by omega
  | n + 1, k, h => by
    by_cases e : k = n
    · subst e; exact List.mem_cons_self ..
    · exact List.mem_cons_of_mem _ (mem_below (by omega))
theorem lall_mem {β : Type} {p : β → Bool} {l : List β} (h : lall p l = true) {x : β} (hx : x ∈ l) : p x = true := by
  rw [lall_eq, List.all_eq_true] at h
  exact h x hx
noncomputable def isT (o : Option AV) : Bool := match o with | some (.b q) => q | _ => false
theorem isT_some {o : Option AV} (h : isT o = true) : o = some (.b true) := by
  unfold isT at h
  cases o with
  | none => cases h
  | some v => cases v <;> first | (cases h; done) | skip; rename_i q; cases q; cases h; rfl
section
variable {P : Program} {cfg : Cfg} {T : T8 Ent}
/-- A run of the clean forms that tells 'true'. -/
noncomputable def goT (P : Program) (cfg : Cfg) (T : T8 Ent) (n : Nat) (f : FuncId) (args : List AV) : Bool := isT (callG P cfg T none n f args Heap.empty (fun v _ => some v))
theorem goT_run (hT : ∀ f E, T.get f = some E → Good P cfg f E) {n : Nat} {f : FuncId} {args : List AV} (h : goT P cfg T n f args = true) : callF P none cfg n f args Heap.empty (fun v _ => some v) = some (.b true) := by
  rw [← callG_eq hT]
  exact isT_some h
theorem goT_calls (hm : P.follows .mixedOrders = true) (ok : CfgOK P cfg) (hT : ∀ f E, T.get f = some E → Good P cfg f E) {n : Nat} {f : FuncId} {args : List AV} (h : goT P cfg T n f args = true) {w : World} {vs : Array Value}
    (hv : FReps w noBad args vs.toList) : Calls P f vs w fun e w' => e = .returned (.bool true) ∧ RowKit.Grown w w' := by
  refine (run_calls hm ok (goT_run hT h) hv).mono fun e w' ⟨v, φ', h', he, hv, hg⟩ => ?_
  rw [VRep] at hv
  subst hv
  exact ⟨he, hg⟩
theorem FReps.two {w : World} {a b : AV} {u v : Value} (h1 : FRep w noBad a u) (h2 : FRep w noBad b v) : FReps w noBad [a, b] [u, v] := by
  rw [FReps]; refine ⟨u, _, rfl, h1, ?_⟩
  rw [FReps]; exact ⟨v, _, rfl, h2, by rw [FReps]⟩
theorem FReps.cons {w : World} {a : AV} {l : List AV} {u : Value} {us : List Value} (h1 : FRep w noBad a u) (h2 : FReps w noBad l us) : FReps w noBad (a :: l) (u :: us) := by
  rw [FReps]; exact ⟨u, _, rfl, h1, h2⟩
theorem FReps.nil {w : World} : FReps w noBad [] [] := by rw [FReps]
theorem FRep.xi {w : World} {k : IntKind} {z : Int} {t : XT} (h : XOK t (.i k z)) : FRep w noBad (.xi k z t) (.int k z) := by rw [FRep]; exact ⟨rfl, h⟩
theorem FRep.b {w : World} {q : Bool} : FRep w noBad (.b q) (.bool q) := by rw [FRep]
/-- What the names of functions must not be. -/
theorem names_ok (h : lall (fun fn : Func => !(fn.name == "runtime.NumGoroutine")) P.funcs.toList = true) (f : FuncId) (fn : Func) (hf : P.funcs[f]? = some fn) : (fn.name == "runtime.NumGoroutine") = false := by
  have := lall_mem h (x := fn) (List.mem_of_getElem? (i := f) (by simpa using hf))
  simpa using this
end
end Go.Zev
