/-
  suite.Show at tests that lie in memory: the text of all of them, one behind the other; what was there is as it was.
-/
import Derived.Test.YtaidendlmkpajaaGreatDoorGV0
set_option linter.unusedVariables false
namespace Go.Zev.Su
open Go Go.Proofs Go.RowKit
def showB : List (List UInt8 × List UInt8) → List UInt8
  | [] => []
  | r :: l => (r.1 ++ [58, 58] ++ r.2 ++ [10]) ++ showB l
theorem showB_append : ∀ (l m : List (List UInt8 × List UInt8)), showB (l ++ m) = showB l ++ showB m
  | [], m => rfl
  | r :: l, m => by show _ ++ showB (l ++ m) = (_ ++ showB l) ++ showB m; rw [showB_append]; simp only [List.append_assoc]
theorem showB_take (l : List (List UInt8 × List UInt8)) (k : Nat) (h : k < l.length) : showB (l.take (k + 1)) = showB (l.take k) ++ (l[k].1 ++ [58, 58] ++ l[k].2 ++ [10]) := by
  rw [List.take_add_one, List.getElem?_eq_getElem h, showB_append]
  show _ ++ (_ ++ []) = _
  rw [List.append_nil]
theorem showB_le (l : List (List UInt8 × List UInt8)) (k : Nat) : (showB (l.take k)).length ≤ (showB l).length := by
  have := showB_append (l.take k) (l.drop k)
  rw [List.take_append_drop] at this
  rw [this, List.length_append]
  omega
theorem bcat (a b : List UInt8) : (⟨a.toArray⟩ ++ ⟨b.toArray⟩ : ByteArray) = ⟨(a ++ b).toArray⟩ := by
  apply ByteArray.ext
  rw [ByteArray.data_append]
  simp
theorem cat4 (x y : List UInt8) : ({ data := x.toArray } ++ { data := #[58, 58] } ++ { data := y.toArray } ++ { data := #[10] } : ByteArray) = ⟨(x ++ [58, 58] ++ y ++ [10]).toArray⟩ := by
  show (⟨x.toArray⟩ ++ ⟨[58, 58].toArray⟩ ++ ⟨y.toArray⟩ ++ ⟨[10].toArray⟩ : ByteArray) = _
  rw [bcat, bcat, bcat]
theorem BuilderAt.allocs {T e : TypeId} {B b : Nat} {p : Value} {bs : List Value} {w : World} (h : Lib.BuilderAt T e B b p bs w) (o : Obj) : Lib.BuilderAt T e B b p bs (w.alloc o) := by
  have hlt := h.lt
  obtain ⟨hB, v, hb, hown, hne⟩ := h
  exact ⟨hB, v, by rw [Lib.alloc_old w o b hlt]; exact hb, hown.alloc o, hne⟩
theorem IsBuilder.allocs {T e : TypeId} {B b : Nat} {bs : List Value} {w : World} (h : Lib.IsBuilder T e B b bs w) (o : Obj) : Lib.IsBuilder T e B b bs (w.alloc o) := h.imp (fun h => BuilderAt.allocs h o) (fun h => BuilderAt.allocs h o)
theorem rows_le : ∀ (l : List (List UInt8 × List UInt8)), l.length ≤ (showB l).length
  | [] => Nat.le_refl _
  | r :: l => by
    have := rows_le l
    show l.length + 1 ≤ ((r.1 ++ [58, 58] ++ r.2 ++ [10]) ++ showB l).length
    simp only [List.length_append, List.length_cons, List.length_nil]
    omega
/-- One test more. -/
theorem write_row (B : Nat) (bs x y : List UInt8) (w : World) (o : Obj) (h : Lib.IsBuilder 44 5 B B (Lib.byteCells bs) w) (hl : x.length + y.length + 3 + bs.length ≤ 1000000) (hB : B ≤ w.heap.size) :
    Calls Tryz.prog 14 #[.pointer (some ⟨B, 0, none⟩), .string ({ data := x.toArray } ++ { data := #[58, 58] } ++ { data := y.toArray } ++ { data := #[10] })] (w.alloc o) fun e w' =>
      (∃ n, e = .returned (.tuple #[.int .i64 n, .nilIface])) ∧ Lib.IsBuilder 44 5 B B (Lib.byteCells (bs ++ (x ++ [58, 58] ++ y ++ [10]))) w' ∧ Below B (w.alloc o) w' := by
  have hs : (⟨(x ++ [58, 58] ++ y ++ [10]).toArray⟩ : ByteArray).size = x.length + y.length + 3 := by
    show (x ++ [58, 58] ++ y ++ [10]).toArray.size = _
    simp only [List.size_toArray, List.length_append, List.length_cons, List.length_nil]
    omega
  have hbs : (Lib.byteCells bs).length = bs.length := Lib.byteCells_length _
  have c := write B B (Lib.byteCells bs) ⟨(x ++ [58, 58] ++ y ++ [10]).toArray⟩ (w.alloc o) (IsBuilder.allocs h o) (by rw [hbs, hs]; omega) (by simp; omega)
  rw [← cat4] at c
  refine c.mono fun e w' ⟨he, h2, b2⟩ => ⟨⟨_, he⟩, .inr ?_, b2⟩
  rw [cat4, Lib.strCells_eq] at h2
  rw [Lib.byteCells_append]
  exact h2
set_option maxHeartbeats 4000000 in
set_option maxRecDepth 100000 in
theorem show_walk (rows : List (List UInt8 × List UInt8)) (b off cap : Nat) (w : World)
    (hc : ∀ (i : Nat) (r : List UInt8 × List UInt8), rows[i]? = some r → w.cell? ⟨b, off + i * 2, none⟩ = some (.string ⟨r.1.toArray⟩) ∧ w.cell? ⟨b, off + i * 2 + 1, none⟩ = some (.string ⟨r.2.toArray⟩))
    (hlim : (showB rows).length ≤ 1000000) :
    Calls Tryz.prog 7 #[.slice (some ⟨b, off, none⟩) rows.length cap] w fun e w' => e = .returned (.string ⟨(showB rows).toArray⟩) ∧ Below w.heap.size w w' := by
  have h0 : Lib.IsBuilder 44 5 w.heap.size w.heap.size [] (w.alloc (.cells #[.pointer none, .slice none 0 0] 44)) := Lib.fresh_isBuilder 44 5 w
  have b0 : Below w.heap.size w (w.alloc (.cells #[.pointer none, .slice none 0 0] 44)) := (Below.refl _ w).alloc (Nat.le_refl _) _
  go_enter Tryz.func7, Tryz.ntmps7
  go_wp2
  go_loopw [8] (fun vi wr => ∃ k : Nat, k ≤ rows.length ∧ vi = .int .i64 k ∧ Lib.IsBuilder 44 5 w.heap.size w.heap.size (Lib.byteCells (showB (rows.take k))) wr ∧ Below w.heap.size w wr)
    (fun vi _ => rows.length - (RowKit.intOf vi).toNat)
  case atStart => exact ⟨0, Nat.zero_le _, rfl, h0, b0⟩
  case round =>
    obtain ⟨k, hk, rfl, hI, hb⟩ := hrel
    clear h0 b0
    by_cases hp : k < rows.length
    · obtain ⟨g0, g1⟩ := hc k _ (List.getElem?_eq_getElem hp)
      have hbl : b < w.heap.size := by
        have := g0
        unfold World.cell? at this
        cases hq : w.heap[b]? with
        | none => rw [hq] at this; cases this
        | some o => exact (Array.getElem?_eq_some_iff.1 hq).1
      have c0 : wr.cell? ⟨b, off + k * 2, none⟩ = some (.string ⟨rows[k].1.toArray⟩) := by rw [← g0]; unfold World.cell?; rw [hb.block b hbl]
      have c1 : wr.cell? ⟨b, off + k * 2 + 1, none⟩ = some (.string ⟨rows[k].2.toArray⟩) := by rw [← g1]; unfold World.cell?; rw [hb.block b hbl]
      have hl : rows[k].1.length + rows[k].2.length + 3 + (showB (rows.take k)).length ≤ 1000000 := by
        have h1 := showB_le rows (k + 1)
        rw [showB_take rows k hp] at h1
        simp only [List.length_append, List.length_cons, List.length_nil] at h1
        omega
      have hz := hb.size
      go_wp2_with (go_at_call 14; refine (write_row w.heap.size (showB (rows.take k)) rows[k].1 rows[k].2 wr (.cells #[.string ⟨rows[k].1.toArray⟩, .string ⟨rows[k].2.toArray⟩] 27) hI hl hz).mono ?_; rintro e W2 ⟨⟨n, rfl⟩, h2, b2⟩)
      have hb2 := hb.alloc hz (.cells #[.string ⟨rows[k].1.toArray⟩, .string ⟨rows[k].2.toArray⟩] 27)
      have hkl := rows_le rows
      have hw : wrap64 ((k : Int) + 1) = ((k + 1 : Nat) : Int) := by
        unfold wrap64
        omega
      go_roundw
      case rel =>
        refine ⟨k + 1, hp, by rw [hw], ?_, hb2.trans b2⟩
        rw [showB_take rows k hp]
        exact h2
      case measure =>
        rw [hw]
        show rows.length - (((k + 1 : Nat) : Int)).toNat < rows.length - ((k : Int)).toNat
        omega
    · have hkk : k = rows.length := by omega
      subst hkk
      rw [List.take_length] at hI
      have hz := hb.size
      go_wp2_with (go_at_call 15; refine (Tryz.Builder_String_any w.heap.size w.heap.size (showB rows) wr hI hz).mono ?_; rintro e W2 ⟨rfl, b2⟩)
      go_ret
      exact ⟨rfl, hb.trans b2⟩
end Go.Zev.Su
