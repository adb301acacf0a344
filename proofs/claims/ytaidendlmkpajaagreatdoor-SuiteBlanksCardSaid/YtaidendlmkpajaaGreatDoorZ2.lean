/-
  The evaluator is one function: what is done with an answer may be done behind it.
-/
import Derived.Orders
import Derived.Still
import Derived.Test.YtaidendlmkpajaaGreatDoorZ1

set_option linter.unusedSimpArgs false
set_option linter.unusedVariables false
namespace Go.Zev
open Go
section
variable {α γ : Type} (g : γ → α) (n' : γ) (P : Program)
theorem on_hom {β : Type} (o : Option β) (k : β → γ) : on (g n') o (fun x => g (k x)) = g (on n' o k) := by cases o <;> rfl
theorem bi_hom (c : Bool) (x y : γ) : bi c (g x) (g y) = g (bi c x y) := by cases c <;> rfl
theorem load1_hom [Env] (h : Heap) (x : AV) (k : AV → γ) : load1 (g n') h x (fun v => g (k v)) = g (load1 n' h x k) := by
 unfold load1
 simp only [on_hom]
theorem loadN_hom [Env] (h : Heap) (n : Nat) (x : AV) (k : AV → γ) : loadN (g n') h n x (fun v => g (k v)) = g (loadN n' h n x k) := by
 unfold loadN
 simp only [on_hom]
theorem loadA_hom [Env] (h : Heap) (ty : TypeId) (x : AV) (k : AV → γ) : loadA P (g n') h ty x (fun v => g (k v)) = g (loadA P n' h ty x k) := by
 unfold loadA
 simp only [bi_hom, load1_hom, loadN_hom]
theorem wrEl_hom [Env] (h : Heap) (b sz : Nat) (el : List (List AV)) (i off n : Nat) (cs : List AV) (k : Heap → γ) : wrEl (g n') h b sz el i off n cs (fun v => g (k v)) = g (wrEl n' h b sz el i off n cs k) := by
 unfold wrEl
 simp only [on_hom, bi_hom]
theorem wrt_hom [Env] (h : Heap) (x : AV) (n : Nat) (cs : List AV) (k : Heap → γ) : wrt (g n') h x n cs (fun v => g (k v)) = g (wrt n' h x n cs k) := by
 unfold wrt
 split
 ·split <;> first | rfl | simp only [wrEl_hom]
 ·rfl
theorem storeN_hom [Env] (h : Heap) (n : Nat) (x : AV) (cs : List AV) (k : Heap → γ) : storeN (g n') h n x cs (fun v => g (k v)) = g (storeN n' h n x cs k) := by
 unfold storeN
 simp only [bi_hom, wrt_hom]
theorem storeA_hom [Env] (h : Heap) (ty : TypeId) (x v : AV) (k : Heap → γ) : storeA P (g n') h ty x v (fun v => g (k v)) = g (storeA P n' h ty x v k) := by
 unfold storeA
 simp only [bi_hom, storeN_hom]
theorem fillA_hom [Env] (fs : List Field) (ρ : Operand → AV) (k : List AV → γ) : ∀ (ps : List (Nat × Operand)) (cells : List AV), fillA P (g n') fs ρ (fun v => g (k v)) ps cells = g (fillA P n' fs ρ k ps cells)
 | [], _ => rfl
 | p :: ps, cells => by
  show on (g n') (fieldsAt P fs p.1) (fun q => on (g n') (ucells (ρ p.2)) fun cs => on (g n') (lay cells q.1 q.2 cs) (fillA P (g n') fs ρ (fun v => g (k v)) ps)) =
   g (on n' (fieldsAt P fs p.1) fun q => on n' (ucells (ρ p.2)) fun cs => on n' (lay cells q.1 q.2 cs) (fillA P n' fs ρ k ps))
  have ih : fillA P (g n') fs ρ (fun v => g (k v)) ps = fun c => g (fillA P n' fs ρ k ps c) := funext (fillA_hom fs ρ k ps)
  rw [ih]
  simp only [on_hom]
theorem buildA_hom [Env] (ty : TypeId) (ρ : Operand → AV) (ps : List (Nat × Operand)) (k : AV → γ) : buildA P (g n') ty ρ ps (fun v => g (k v)) = g (buildA P n' ty ρ ps k) := by
 unfold buildA
 have : ∀ q : List Field × List AV, fillA P (g n') q.1 ρ (fun cs => g (k (.agg cs))) ps q.2 = g (fillA P n' q.1 ρ (fun cs => k (.agg cs)) ps q.2) := fun q => fillA_hom g n' P q.1 ρ (fun cs => k (.agg cs)) ps q.2
 simp only [this, on_hom]
theorem fillE_hom [Env] (sz len : Nat) (ρ : Operand → AV) (k : List (List AV) → γ) : ∀ (ps : List (Nat × Operand)) (el : List (List AV)), fillE (g n') sz len ρ (fun v => g (k v)) ps el = g (fillE n' sz len ρ k ps el)
 | [], _ => rfl
 | p :: ps, el => by
  show on (g n') (ucells (ρ p.2)) (fun cs => bi (lhas cs sz && Nat.blt p.1 len) (fillE (g n') sz len ρ (fun v => g (k v)) ps (lset el cs p.1)) (g n')) =
   g (on n' (ucells (ρ p.2)) fun cs => bi (lhas cs sz && Nat.blt p.1 len) (fillE n' sz len ρ k ps (lset el cs p.1)) n')
  have ih : ∀ el, fillE (g n') sz len ρ (fun v => g (k v)) ps el = g (fillE n' sz len ρ k ps el) := fillE_hom sz len ρ k ps
  simp only [ih, bi_hom, on_hom]
theorem buildSliceA_hom [Env] (h : Heap) (id : Nat) (ty : TypeId) (len : Nat) (ρ : Operand → AV) (ps : List (Nat × Operand)) (k : AV → Heap → γ) : buildSliceA P (g n') h id ty len ρ ps (fun v h => g (k v h)) = g (buildSliceA P n' h id ty len ρ ps k) := by
 unfold buildSliceA
 have : ∀ q : TypeId × Nat × List AV, fillE (g n') q.2.1 len ρ (fun el => g (k (.sl id q.2.1 0 len len true) (h.new id (.cells q.2.1 el)))) ps (lrep q.2.2 len) = g (fillE n' q.2.1 len ρ (fun el => k (.sl id q.2.1 0 len len true) (h.new id (.cells q.2.1 el))) ps (lrep q.2.2 len)) :=
  fun q => fillE_hom g n' q.2.1 len ρ (fun el => k (.sl id q.2.1 0 len len true) (h.new id (.cells q.2.1 el))) ps (lrep q.2.2 len)
 simp only [this, on_hom, bi_hom]
theorem fieldN_hom [Env] (off sz : Nat) (agg : Bool) (x : AV) (k : AV → γ) : fieldN (g n') off sz agg x (fun v => g (k v)) = g (fieldN n' off sz agg x k) := by
 unfold fieldN
 cases x <;> first | rfl | simp only [on_hom, bi_hom]
theorem fieldA_hom [Env] (ty : TypeId) (x : AV) (j : Nat) (k : AV → γ) : fieldA P (g n') ty x j (fun v => g (k v)) = g (fieldA P n' ty x j k) := by
 unfold fieldA
 simp only [on_hom, fieldN_hom]
theorem fieldAddrN_hom (o : Nat) (x : AV) (k : AV → γ) : fieldAddrN (g n') o x (fun v => g (k v)) = g (fieldAddrN n' o x k) := by
 unfold fieldAddrN
 cases x <;> first | rfl | simp only [on_hom, bi_hom, load1_hom, loadN_hom, loadA_hom, wrEl_hom, wrt_hom, storeN_hom, storeA_hom, fillA_hom, buildA_hom, buildSliceA_hom, fieldN_hom, fieldA_hom]
theorem fieldAddrA_hom [Env] (ty : TypeId) (x : AV) (j : Nat) (k : AV → γ) : fieldAddrA P (g n') ty x j (fun v => g (k v)) = g (fieldAddrA P n' ty x j k) := by
 unfold fieldAddrA
 simp only [on_hom, bi_hom, fieldAddrN_hom]
theorem indexAddrN_hom [Env] (sz : Nat) (x : AV) (n : Nat) (k : AV → γ) : indexAddrN (g n') sz x n (fun v => g (k v)) = g (indexAddrN n' sz x n k) := by
 unfold indexAddrN
 cases x <;> first | rfl | simp only [on_hom, bi_hom]
theorem indexAddrA_hom [Env] (ty : TypeId) (x ix : AV) (k : AV → γ) : indexAddrA P (g n') ty x ix (fun v => g (k v)) = g (indexAddrA P n' ty x ix k) := by
 unfold indexAddrA
 simp only [on_hom, indexAddrN_hom]
theorem indexN_hom [Env] (x : AV) (n : Nat) (k : AV → γ) : indexN (g n') x n (fun v => g (k v)) = g (indexN n' x n k) := by
 unfold indexN
 cases x <;> first | rfl | simp only [bi_hom]
theorem indexA_hom [Env] (ty : TypeId) (x ix : AV) (k : AV → γ) : indexA P (g n') ty x ix (fun v => g (k v)) = g (indexA P n' ty x ix k) := by
 unfold indexA
 simp only [on_hom, bi_hom, indexN_hom]
theorem bnd_hom [Env] (x : AV) (y : Nat) (k : Nat → γ) : bnd (g n') x y (fun v => g (k v)) = g (bnd n' x y k) := by
 unfold bnd
 simp only [on_hom, bi_hom]
theorem bndO_hom [Env] (ρ : Operand → AV) (y d : Nat) (o : Option Operand) (k : Nat → γ) : bndO (g n') ρ y d o (fun v => g (k v)) = g (bndO n' ρ y d o k) := by
 cases o with
 | none => rfl
 | some x => exact bnd_hom g n' (ρ x) y k
theorem bnds_hom [Env] (ρ : Operand → AV) (len : Nat) (lo hi : Option Operand) (k : Nat → Nat → γ) : bnds (g n') ρ len lo hi (fun a b => g (k a b)) = g (bnds n' ρ len lo hi k) := by
 unfold bnds
 simp only [bndO_hom]
theorem bndsC_hom [Env] (ρ : Operand → AV) (len y : Nat) (lo hi : Option Operand) (k : Nat → Nat → γ) : bndsC (g n') ρ len y lo hi (fun a b => g (k a b)) = g (bndsC n' ρ len y lo hi k) := by
 unfold bndsC
 simp only [bndO_hom]
theorem slice2_hom [Env] (ty : TypeId) (ρ : Operand → AV) (x : AV) (lo hi : Option Operand) (k : AV → γ) : slice2 P (g n') ty ρ x lo hi (fun v => g (k v)) = g (slice2 P n' ty ρ x lo hi k) := by
 unfold slice2
 cases x <;> first | rfl | simp only [on_hom, bi_hom, bnds_hom, bndsC_hom]
theorem slice3_hom [Env] (ty : TypeId) (ρ : Operand → AV) (x : AV) (hi mx : Operand) (k : AV → γ) : slice3 P (g n') ty ρ x hi mx (fun v => g (k v)) = g (slice3 P n' ty ρ x hi mx k) := by
 unfold slice3
 cases x <;> simp only [on_hom, bi_hom, bnd_hom]
theorem sliceU_hom [Env] (ty : TypeId) (ρ : Operand → AV) (x : AV) (lo hi mx : Operand) (k : AV → γ) : sliceU P (g n') ty ρ x lo hi mx (fun v => g (k v)) = g (sliceU P n' ty ρ x lo hi mx k) := by
 unfold sliceU
 cases x <;> simp only [on_hom, bi_hom, bnd_hom]
theorem sliceA_hom [Env] (ty : TypeId) (ρ : Operand → AV) (x : AV) (lo hi mx : Option Operand) (k : AV → γ) : sliceA P (g n') ty ρ x lo hi mx (fun v => g (k v)) = g (sliceA P n' ty ρ x lo hi mx k) := by
 unfold sliceA
 cases mx <;> cases lo <;> cases hi <;> first | rfl | simp only [slice2_hom, slice3_hom, sliceU_hom]
theorem lenN_hom [Env] (str sl : Bool) (x : AV) (k : AV → γ) : lenN (g n') str sl x (fun v => g (k v)) = g (lenN n' str sl x k) := by
 unfold lenN
 cases x <;> first | rfl | simp only [bi_hom]
theorem elemsA_hom [Env] (h : Heap) (sz : Nat) (x : AV) (k : List (List AV) → γ) : elemsA (g n') h sz x (fun v => g (k v)) = g (elemsA n' h sz x k) := by
 unfold elemsA
 cases x <;> first | rfl | simp only [bi_hom] | skip
 split <;> simp only [bi_hom]
theorem appendSl_hom [Env] (h : Heap) (id sz b start len : Nat) (full : Bool) (src : List (List AV)) (n : Nat) (el : List (List AV)) (k : AV → Heap → γ) : appendSl (g n') h id sz b start len full src n el (fun v h => g (k v h)) = g (appendSl n' h id sz b start len full src n el k) := by
 unfold appendSl
 simp only [bi_hom]
theorem appendE_hom [Env] (h : Heap) (id sz : Nat) (x : AV) (src : List (List AV)) (n : Nat) (k : AV → Heap → γ) : appendE (g n') h id sz x src n (fun v h => g (k v h)) = g (appendE n' h id sz x src n k) := by
 unfold appendE
 split <;> first | rfl | simp only [bi_hom, appendSl_hom] | skip
 split <;> simp only [bi_hom]
theorem append2_hom [Env] (h : Heap) (id sz : Nat) (x : AV) (src : List (List AV)) (k : AV → Heap → γ) : append2 (g n') h id sz x src (fun v h => g (k v h)) = g (append2 n' h id sz x src k) := by
 unfold append2
 cases src <;> simp only [bi_hom, appendE_hom]
theorem appendA_hom [Env] (h : Heap) (id : Nat) (ty uy : TypeId) (x y : AV) (k : AV → Heap → γ) : appendA P (g n') h id ty uy x y (fun v h => g (k v h)) = g (appendA P n' h id ty uy x y k) := by
 unfold appendA
 have : ∀ q : TypeId × Nat × List AV, elemsA (g n') h q.2.1 y (fun src => g (append2 n' h id q.2.1 x src k)) = g (elemsA n' h q.2.1 y fun src => append2 n' h id q.2.1 x src k) := fun q => elemsA_hom g n' h q.2.1 y _
 simp only [append2_hom, this, on_hom, bi_hom]
theorem putR_hom [Env] (h : Heap) (sz : Nat) (x : AV) (src : List (List AV)) (n : Nat) (k : AV → Heap → γ) : putR (g n') h sz x src n (fun v h => g (k v h)) = g (putR n' h sz x src n k) := by
 unfold putR
 split
 ·rename_i b _ _ _ _
  cases h.get b <;> simp only [bi_hom]
 ·rfl
theorem append3_hom [Env] (h : Heap) (id sz : Nat) (x : AV) (src : List (List AV)) (k : AV → Heap → γ) : append3 (g n') h id sz x src (fun v h => g (k v h)) = g (append3 n' h id sz x src k) := by
 unfold append3
 cases src <;> simp only [bi_hom, putR_hom, appendE_hom]
theorem appendY_hom [Env] (h : Heap) (id : Nat) (ty uy : TypeId) (x y : AV) (k : AV → Heap → γ) : appendY P (g n') h id ty uy x y (fun v h => g (k v h)) = g (appendY P n' h id ty uy x y k) := by
 unfold appendY
 have : ∀ q : TypeId × Nat × List AV, elemsA (g n') h q.2.1 y (fun src => g (append3 n' h id q.2.1 x src k)) = g (elemsA n' h q.2.1 y fun src => append3 n' h id q.2.1 x src k) := fun q => elemsA_hom g n' h q.2.1 y _
 simp only [append3_hom, this, on_hom, bi_hom]
theorem makeSliceA_hom [Env] (h : Heap) (id : Nat) (ty : TypeId) (l c : AV) (k : AV → Heap → γ) : makeSliceA P (g n') h id ty l c (fun v h => g (k v h)) = g (makeSliceA P n' h id ty l c k) := by
 unfold makeSliceA
 simp only [on_hom, bi_hom]
theorem binI_hom [Env] (op : BinOp) (j : IntKind) (a b : Int) (k : AV → γ) : binI (g n') op j a b (fun v => g (k v)) = g (binI n' op j a b k) := by
 unfold binI
 cases op <;> first | rfl | simp only [bi_hom]
theorem binS_hom [Env] (op : BinOp) (l1 v1 l2 v2 : Nat) (k : AV → γ) : binS (g n') op l1 v1 l2 v2 (fun v => g (k v)) = g (binS n' op l1 v1 l2 v2 k) := by
 unfold binS
 cases op <;> first | rfl | simp only [bi_hom]
theorem binSh_hom [Env] (op : BinOp) (j : IntKind) (a b : Int) (k : AV → γ) : binSh (g n') op j a b (fun v => g (k v)) = g (binSh n' op j a b k) := by
 unfold binSh
 cases op <;> first | rfl | simp only [bi_hom]
theorem binE_hom [Env] (op : BinOp) (ty : TypeId) (x y : AV) (k : AV → γ) : binE P (g n') op ty x y (fun v => g (k v)) = g (binE P n' op ty x y k) := by
 unfold binE
 cases op <;> first | rfl | simp only [on_hom]
theorem binII_hom [Env] (op : BinOp) (j : IntKind) (a : Int) (y : AV) (k : AV → γ) : binII (g n') op j a y (fun v => g (k v)) = g (binII n' op j a y k) := by
 unfold binII
 cases y <;> first | rfl | simp only [bi_hom, binI_hom, binSh_hom]
theorem binSS_hom [Env] (op : BinOp) (l1 v1 : Nat) (y : AV) (k : AV → γ) : binSS (g n') op l1 v1 y (fun v => g (k v)) = g (binSS n' op l1 v1 y k) := by
 unfold binSS
 cases y <;> first | rfl | simp only [binS_hom]
theorem xval_hom (z : Int) (r : XT) (k : AV → γ) : xval (g n') z r (fun v => g (k v)) = g (xval n' z r k) := by cases r <;> rfl
theorem binX_hom [Env] (op : BinOp) (j : IntKind) (z : Int) (t : XT) (y : AV) (k : AV → γ) : binX (g n') op j z t y (fun v => g (k v)) = g (binX n' op j z t y k) := by
 unfold binX
 cases y <;> first | rfl | simp only [on_hom, xval_hom]
theorem binIX_hom [Env] (op : BinOp) (j : IntKind) (a : Int) (y : AV) (k : AV → γ) : binIX (g n') op j a y (fun v => g (k v)) = g (binIX n' op j a y k) := by
 have hb : ∀ r, boolX (g n') r (fun v => g (k v)) = g (boolX n' r k) := fun r => by cases r <;> rfl
 unfold binIX
 split
 ·simp only [hb, on_hom, bi_hom]
 ·exact binII_hom g n' op j a _ k
theorem binA_hom [Env] (op : BinOp) (ty : TypeId) (x y : AV) (k : AV → γ) : binA P (g n') op ty x y (fun v => g (k v)) = g (binA P n' op ty x y k) := by
 unfold binA
 cases x <;> first | rfl | simp only [binE_hom, binIX_hom, binSS_hom, binX_hom]
theorem unA_hom (op : UnOp) (x : AV) (k : AV → γ) : unA (g n') op x (fun v => g (k v)) = g (unA n' op x k) := by
 unfold unA
 cases x <;> cases op <;> first | rfl | simp only [on_hom, bi_hom, load1_hom, loadN_hom, loadA_hom, wrEl_hom, wrt_hom, storeN_hom, storeA_hom, fillA_hom, buildA_hom, buildSliceA_hom, fieldN_hom, fieldA_hom, fieldAddrN_hom, fieldAddrA_hom, indexAddrN_hom, indexAddrA_hom, indexN_hom, indexA_hom, bnd_hom, bndO_hom, bnds_hom, bndsC_hom, slice2_hom, slice3_hom, sliceA_hom, lenN_hom, elemsA_hom, appendSl_hom, appendE_hom, append2_hom, appendA_hom, makeSliceA_hom, binI_hom, binS_hom, binSh_hom, binE_hom, binII_hom, binSS_hom, binA_hom]
theorem convA_hom [Env] (s d : TypeId) (x : AV) (k : AV → γ) : convA P (g n') s d x (fun v => g (k v)) = g (convA P n' s d x k) := by
 unfold convA
 cases x <;> first | rfl | simp only [on_hom, xval_hom, bi_hom]
theorem assertNo_hom [Env] (ty : TypeId) (ok : Bool) (k : AV → γ) : assertNo P (g n') ty ok (fun v => g (k v)) = g (assertNo P n' ty ok k) := by
 unfold assertNo
 simp only [on_hom, bi_hom]
theorem assertA_hom [Env] (x : AV) (ty : TypeId) (ok : Bool) (k : AV → γ) : assertA P (g n') x ty ok (fun v => g (k v)) = g (assertA P n' x ty ok k) := by
 unfold assertA
 cases x <;> simp only [bi_hom, assertNo_hom]
theorem extractN_hom [Env] (x : AV) (i : Nat) (k : AV → γ) : extractN (g n') x i (fun v => g (k v)) = g (extractN n' x i k) := by
 unfold extractN
 cases x <;> first | rfl | simp only [on_hom]
theorem minmax_hom [Env] (big : Bool) (x y : AV) (k : AV → γ) : minmax (g n') big x y (fun v => g (k v)) = g (minmax n' big x y k) := by
 unfold minmax
 cases x <;> cases y <;> first | rfl | simp only [bi_hom]
theorem boxN_hom [Env] (x : AV) (h : Heap) (id : Nat) (k : AV → Heap → γ) : boxN (g n') x h id (fun v h => g (k v h)) = g (boxN n' x h id k) := by
 unfold boxN
 simp only [bi_hom]
theorem putC_hom [Env] (h : Heap) (sz : Nat) (x : AV) (src : List (List AV)) (n : Nat) (k : AV → Heap → γ) : putC (g n') h sz x src n (fun v h => g (k v h)) = g (putC n' h sz x src n k) := by
 unfold putC
 rw [← bi_hom g]
 congr 1
 split
 ·rename_i b _ _ _ _ _
  cases h.get b <;> simp only [bi_hom]
 ·rfl
theorem copyA_hom [Env] (h : Heap) (ty : TypeId) (x y : AV) (k : AV → Heap → γ) : copyA P (g n') h ty x y (fun v h => g (k v h)) = g (copyA P n' h ty x y k) := by
 unfold copyA
 have : ∀ (q : TypeId × Nat × List AV) (n : Nat), elemsA (g n') h q.2.1 (cutA y n) (fun src => g (putC n' h q.2.1 x src n k)) = g (elemsA n' h q.2.1 (cutA y n) fun src => putC n' h q.2.1 x src n k) := fun q n => elemsA_hom g n' h q.2.1 _ _
 simp only [putC_hom, this, on_hom]
theorem capN_hom [Env] (x : AV) (k : AV → γ) : capN (g n') x (fun v => g (k v)) = g (capN n' x k) := by
 unfold capN
 cases x <;> first | rfl | exact bi_hom g _ _ _
theorem clearN_hom [Env] (h : Heap) (sz : Nat) (z : List AV) (x : AV) (k : Heap → γ) : clearN (g n') h sz z x (fun v => g (k v)) = g (clearN n' h sz z x k) := by
 unfold clearN
 cases x <;> first | rfl | skip
 rename_i b _ _ _ _ _
 dsimp only
 cases h.get b <;> simp only [bi_hom]
theorem insertN_hom [Env] (h : Heap) (j : IntKind) (m key x : AV) (k : Heap → γ) : insertN (g n') h j m key x (fun v => g (k v)) = g (insertN n' h j m key x k) := by
 unfold insertN
 split
 ·split
  ·split
   ·exact bi_hom g _ _ _
   ·rfl
  ·rfl
 ·rfl
theorem lookupN_hom [Env] (h : Heap) (j : IntKind) (z : Option AV) (m key : AV) (ok : Bool) (k : AV → γ) : lookupN (g n') h j z m key ok (fun v => g (k v)) = g (lookupN n' h j z m key ok k) := by
 unfold lookupN
 split
 ·split
  ·split
   ·rename_i es _ l n
    have : ∀ r : Option AV, Option.rec (motive := fun _ => α) (on (g n') z fun z => g (k (okTup ok z false))) (fun v => g (k (okTup ok v true))) r = g (Option.rec (motive := fun _ => γ) (on n' z fun z => k (okTup ok z false)) (fun v => k (okTup ok v true)) r) := by
     intro r
     cases r with
     | none => exact on_hom g n' z _
     | some v => rfl
    simp only [on_hom, bi_hom]
   ·rfl
  ·rfl
 ·rfl
theorem nextN_hom [Env] (h : Heap) (x : AV) (k : AV → Heap → γ) : nextN (g n') h x (fun v h => g (k v h)) = g (nextN n' h x k) := by
 unfold nextN
 split
 ·split
  ·simp only [bi_hom]
  ·rfl
 ·rfl
def CallHom (call : Call' α) (call' : Call' γ) : Prop := ∀ f args h (k : AV → Heap → γ), call f args h (fun v h => g (k v h)) = g (call' f args h k)
theorem callFn_hom {call : Call' α} {call' : Call' γ} (hc : CallHom g call call') (f : AV) (args : List AV) (h : Heap) (k : AV → Heap → γ) : callFn (g n') f args call h (fun v h => g (k v h)) = g (callFn n' f args call' h k) := by
 unfold callFn
 split
 ·exact hc _ _ _ _
 ·rfl
theorem table_hom [Env] {call : Call' α} {call' : Call' γ} (hc : CallHom g call call') (o : Op) (ρ : Operand → AV) (h : Heap) (id : Nat) (k : AV → Heap → γ) :
  table P o (g n') call ρ h id (fun v h => g (k v h)) = g (table P o n' call' ρ h id k) := by
 cases o with
 | move x => rfl
 | assign x => rfl
 | pick c a b => show evPick c a b (g n') call ρ h id (fun v h => g (k v h)) = g (evPick c a b n' call' ρ h id k); unfold evPick; split <;> rfl
 | alloc t => show on _ (zeroOf P t) _ = g (on _ (zeroOf P t) _); exact on_hom g n' _ _
 | box t x => exact boxN_hom g n' _ _ _ k
 | build t ps => exact buildA_hom g n' P _ _ _ fun v => k v h
 | buildSlice t n ps => exact buildSliceA_hom g n' P _ _ _ _ _ _ k
 | load t x => exact loadA_hom g n' P _ _ _ fun v => k v h
 | store t x y => exact storeA_hom g n' P _ _ _ _ (k .un)
 | nilCheck x => show evNilCheck x (g n') call ρ h id (fun v h => g (k v h)) = g (evNilCheck x n' call' ρ h id k); unfold evNilCheck; split <;> rfl
 | binOp op t x y t' => exact binA_hom g n' P _ _ _ _ fun v => k v h
 | unOp op t x => exact unA_hom g n' _ _ fun v => k v h
 | convert s d x => exact convA_hom g n' P _ _ _ fun v => k v h
 | makeInterface t x => exact bi_hom g _ _ _
 | makeFunc f a c => rfl
 | makeSlice t l c => exact makeSliceA_hom g n' P _ _ _ _ _ k
 | slice t x lo hi mx => exact sliceA_hom g n' P _ _ _ _ _ _ fun v => k v h
 | fieldAddr t x j => exact fieldAddrA_hom g n' P _ _ _ fun v => k v h
 | field t x j => exact fieldA_hom g n' P _ _ _ fun v => k v h
 | indexAddr t x i => exact indexAddrA_hom g n' P _ _ _ fun v => k v h
 | index t x i => exact indexA_hom g n' P _ _ _ fun v => k v h
 | typeAssert x s t ok => exact assertA_hom g n' P _ _ _ fun v => k v h
 | extract x i => exact extractN_hom g n' _ _ fun v => k v h
 | makeMap t r => cases r <;> rfl
 | insert t m key x =>
  show on (g n') (mapOfT P t) (fun q => insertN (g n') h q.1 (ρ m) (ρ key) (ρ x) fun v => g (k .un v)) = g (on n' (mapOfT P t) fun q => insertN n' h q.1 (ρ m) (ρ key) (ρ x) (k .un))
  have : ∀ q : IntKind × TypeId, insertN (g n') h q.1 (ρ m) (ρ key) (ρ x) (fun v => g (k .un v)) = g (insertN n' h q.1 (ρ m) (ρ key) (ρ x) (k .un)) := fun q => insertN_hom g n' h q.1 _ _ _ (k .un)
  simp only [this, on_hom]
 | lookup t m key ok =>
  show on (g n') (mapOfT P t) (fun q => lookupN (g n') h q.1 (zeroOf P q.2) (ρ m) (ρ key) ok fun v => g (k v h)) = g (on n' (mapOfT P t) fun q => lookupN n' h q.1 (zeroOf P q.2) (ρ m) (ρ key) ok fun v => k v h)
  have : ∀ q : IntKind × TypeId, lookupN (g n') h q.1 (zeroOf P q.2) (ρ m) (ρ key) ok (fun v => g (k v h)) = g (lookupN n' h q.1 (zeroOf P q.2) (ρ m) (ρ key) ok fun v => k v h) := fun q => lookupN_hom g n' h q.1 _ _ _ _ fun v => k v h
  simp only [this, on_hom]
 | range t x =>
  show bi (isStr P t) (match ρ x with | .s len val => g (k (.it id) (h.new id (.iter len val 0))) | _ => g n') (g n') = g (bi (isStr P t) (match ρ x with | .s len val => k (.it id) (h.new id (.iter len val 0)) | _ => n') n')
  rw [← bi_hom g]
  congr 1
  split <;> rfl
 | next x s =>
  show bi s (nextN (g n') h (ρ x) fun v h => g (k v h)) (g n') = g (bi s (nextN n' h (ρ x) k) n')
  rw [nextN_hom, bi_hom]
 | call c =>
  show evCall P c (g n') call ρ h id _ = g (evCall P c n' call' ρ h id k)
  unfold evCall
  cases c.callee with
  | value f => exact callFn_hom g n' hc _ _ _ k
  | invoke r n => rfl
  | builtin b =>
   cases b <;> first | rfl | skip
   ·show evAppend P c.args.toList c.argTypes.toList (g n') call ρ h id (fun v h => g (k v h)) = g (evAppend P c.args.toList c.argTypes.toList n' call' ρ h id k)
    unfold evAppend
    split
    ·split
     ·exact appendY_hom g n' P _ _ _ _ _ _ k
     ·rfl
    ·rfl
   ·show evCap P c.args.toList c.argTypes.toList (g n') call ρ h id (fun v h => g (k v h)) = g (evCap P c.args.toList c.argTypes.toList n' call' ρ h id k)
    unfold evCap
    split
    ·split
     ·rw [← bi_hom g]
      congr 1
      exact capN_hom g n' _ fun v => k v h
     ·rfl
    ·rfl
   ·show evClear P c.args.toList c.argTypes.toList (g n') call ρ h id (fun v h => g (k v h)) = g (evClear P c.args.toList c.argTypes.toList n' call' ρ h id k)
    unfold evClear
    split
    ·split
     ·rename_i x _ _ t _
      have : ∀ q : TypeId × Nat × List AV, clearN (g n') h q.2.1 q.2.2 (ρ x) (fun h => g (k (.tup []) h)) = g (clearN n' h q.2.1 q.2.2 (ρ x) fun h => k (.tup []) h) := fun q => clearN_hom g n' h _ _ _ fun h => k (.tup []) h
      simp only [this, on_hom]
     ·rfl
    ·rfl
   ·show evCopy P c.args.toList c.argTypes.toList (g n') call ρ h id (fun v h => g (k v h)) = g (evCopy P c.args.toList c.argTypes.toList n' call' ρ h id k)
    unfold evCopy
    split
    ·split
     ·rw [← bi_hom g]
      congr 1
      exact copyA_hom g n' P h _ _ _ k
     ·rfl
    ·rfl
   ·show evLen P c.args.toList c.argTypes.toList (g n') call ρ h id (fun v h => g (k v h)) = g (evLen P c.args.toList c.argTypes.toList n' call' ρ h id k)
    unfold evLen
    split
    ·split
     ·exact lenN_hom g n' _ _ _ fun v => k v h
     ·rfl
    ·rfl
   ·show evMinMax true c.args.toList (g n') call ρ h id (fun v h => g (k v h)) = g (evMinMax true c.args.toList n' call' ρ h id k)
    unfold evMinMax
    split
    ·exact minmax_hom g n' _ _ _ fun v => k v h
    ·rfl
   ·show evMinMax false c.args.toList (g n') call ρ h id (fun v h => g (k v h)) = g (evMinMax false c.args.toList n' call' ρ h id k)
    unfold evMinMax
    split
    ·exact minmax_hom g n' _ _ _ fun v => k v h
    ·rfl
 | _ => rfl
theorem appMk_hom [Env] (h : Heap) (id : Nat) (ty : TypeId) (x y : AV) (k : AV → Heap → γ) : appMk P (g n') h id ty x y (fun v h => g (k v h)) = g (appMk P n' h id ty x y k) := by
 unfold appMk
 cases x <;> first | rfl | simp only [on_hom, bi_hom]
theorem appX_hom [Env] (h : Heap) (id : Nat) (ty uy : TypeId) (x y : AV) (k : AV → Heap → γ) : appX P (g n') h id ty uy x y (fun v h => g (k v h)) = g (appX P n' h id ty uy x y k) := by
 unfold appX appR
 have : ∀ q : TypeId × Nat × List AV, elemsA (g n') h q.2.1 y (fun src => g (putR n' h q.2.1 x src (llen src) k)) = g (elemsA n' h q.2.1 y fun src => putR n' h q.2.1 x src (llen src) k) := fun q => elemsA_hom g n' h q.2.1 y _
 simp only [putR_hom, this, appendA_hom, appMk_hom, on_hom, bi_hom]
theorem tableX_hom [Env] {call : Call' α} {call' : Call' γ} (hc : CallHom g call call') (o : Op) (ρ : Operand → AV) (h : Heap) (id : Nat) (k : AV → Heap → γ) :
  tableX P o (g n') call ρ h id (fun v h => g (k v h)) = g (tableX P o n' call' ρ h id k) := by
 by_cases hop : ∃ c, o = .call c ∧ c.callee = .builtin .append
 ·obtain ⟨c, rfl, hcal⟩ := hop
  have e : ∀ {β : Type}, (tableX P (.call c) : Fn' β) = evAppX P c.args.toList c.argTypes.toList := by
   intro β
   show (match c.callee with | .builtin .append => (evAppX P c.args.toList c.argTypes.toList : Fn' β) | _ => table P (.call c)) = _
   rw [hcal]
  rw [e, e]
  unfold evAppX
  split
  ·split
   ·exact appX_hom g n' P _ _ _ _ _ _ k
   ·rfl
  ·rfl
 ·rw [tableX_eq hop, tableX_eq hop]
  exact table_hom g n' P hc _ _ _ _ k
theorem boolK_hom [Env] (want : Bool) (v : AV) (yes skip : γ) : boolK (g n') want v (g yes) (g skip) = g (boolK n' want v yes skip) := by
 unfold boolK
 split <;> first | rfl | (cases want <;> simp only [bi_hom])
theorem wantedK_hom [Env] (ops : Array Oper) (nv : Nat) (t : Tm) (l : Loc) (o : Oper) (yes skip : γ) : wantedK (g n') ops nv t l o (g yes) (g skip) = g (wantedK n' ops nv t l o yes skip) := by
 unfold wantedK
 cases o.guard with
 | none => rfl
 | some q =>
  show guardK (g n') ops nv t l q (g yes) (g skip) = g (guardK n' ops nv t l q yes skip)
  unfold guardK
  cases guardSlot ops q.1 with
  | none => rfl
  | some d => exact boolK_hom g n' _ _ _ _
theorem putK_hom [Env] (nv : Nat) (k : K γ) (d : Option Nat) (v : AV) (t : Tm) (l : Loc) (h : Heap) : putK nv (fun t l h => g (k t l h)) d v t l h = g (putK nv k d v t l h) := by
 cases d with
 | none => rfl
 | some d => exact bi_hom g _ _ _
theorem opStep_hom [Env] {call : Call' α} {call' : Call' γ} (hc : CallHom g call call') (nv : Nat) (ops : Array Oper) (o : Oper) (k : K γ) (t : Tm) (l : Loc) (h : Heap) (id : Nat) :
  opStep P (g n') call nv ops o (fun t l h => g (k t l h)) t l h id = g (opStep P n' call' nv ops o k t l h id) := by
 unfold opStep
 have h1 : table P o.op (g n') call (opnd nv t l) h id (fun v h => putK nv (fun t l h => g (k t l h)) o.dst v t l h) = g (table P o.op n' call' (opnd nv t l) h id fun v h => putK nv k o.dst v t l h) := by
  simp only [putK_hom]
  exact table_hom g n' P hc _ _ _ _ fun v h => putK nv k o.dst v t l h
 rw [h1, putK_hom, wantedK_hom]
theorem runOps_hom [Env] {call : Call' α} {call' : Call' γ} (hc : CallHom g call call') (nv : Nat) (ops : Array Oper) (k : K γ) : ∀ (os : List Oper) (t : Tm) (l : Loc) (h : Heap),
  runOps P (g n') call nv ops (fun t l h => g (k t l h)) os t l h = g (runOps P n' call' nv ops k os t l h)
 | [], _, _, _ => rfl
 | o :: os, t, l, h => by
  have ih : runOps P (g n') call nv ops (fun t l h => g (k t l h)) os = fun t l h => g (runOps P n' call' nv ops k os t l h) := by
   funext t l h; exact runOps_hom hc nv ops k os t l h
  show opStep P (g n') call nv ops o (runOps P (g n') call nv ops (fun t l h => g (k t l h)) os) t l h h.next = g (opStep P n' call' nv ops o (runOps P n' call' nv ops k os) t l h h.next)
  rw [ih]
  exact opStep_hom g n' P hc nv ops o _ t l h h.next
theorem pnK_hom (v : AV) (p : AV → γ) (k : γ) : pnK v (fun x => g (p x)) (g k) = g (pnK v p k) := by cases v <;> rfl
theorem panicA_hom (x : AV) (k : AV → γ) : panicA (g n') x (fun v => g (k v)) = g (panicA n' x k) := by cases x <;> rfl
theorem push_hom (e v : AV) (k : AV → γ) : push (g n') e v (fun v => g (k v)) = g (push n' e v k) := by cases v <;> rfl
theorem deferF_hom (f : AV) (args : List AV) (k : AV → γ) : deferF (g n') f args (fun v => g (k v)) = g (deferF n' f args k) := by
 cases f <;> first | rfl | skip
 rename_i f a c
 cases f <;> rfl
theorem deferA_hom [Env] (nv : Nat) (o : Oper) (k : K γ) (t : Tm) (l : Loc) (h : Heap) : deferA (g n') nv o (fun t l h => g (k t l h)) t l h = g (deferA n' nv o k t l h) := by
 unfold deferA
 rw [← bi_hom g]
 congr 1
 cases o.op <;> first | rfl | skip
 rename_i c
 show (match c.callee with | .value f => deferF (g n') (opnd nv t l f) (lmap (opnd nv t l) c.args.toList) fun e => push (g n') e (Tm.get t 511) fun v => putK nv (fun t l h => g (k t l h)) o.dst .un (Tm.set t 511 v) l h | _ => g n') =
  g (match c.callee with | .value f => deferF n' (opnd nv t l f) (lmap (opnd nv t l) c.args.toList) fun e => push n' e (Tm.get t 511) fun v => putK nv k o.dst .un (Tm.set t 511 v) l h | _ => n')
 cases c.callee <;> first | rfl | skip
 simp only [putK_hom, push_hom, deferF_hom]
theorem callDied_hom [Env] {call : Call' α} {call' : Call' γ} (hc : CallHom g call call') (nv : Nat) (o : Oper) (kp : AV → K γ) (k : K γ) (t : Tm) (l : Loc) (h : Heap) (id : Nat) :
  callDied P (g n') call nv o (fun x t l h => g (kp x t l h)) (fun t l h => g (k t l h)) t l h id = g (callDied P n' call' nv o kp k t l h id) := by
 unfold callDied
 simp only [putK_hom, pnK_hom]
 exact table_hom g n' P hc _ _ _ _ fun v h => pnK v (fun x => kp x t l h) (putK nv k o.dst v t l h)
theorem coreK_hom [Env] {call : Call' α} {call' : Call' γ} (hc : CallHom g call call') (nv : Nat) (o : Oper) (kp : AV → K γ) (k : K γ) (t : Tm) (l : Loc) (h : Heap) (id : Nat) :
  coreK P (g n') call nv o (fun x t l h => g (kp x t l h)) (fun t l h => g (k t l h)) t l h id = g (coreK P n' call' nv o kp k t l h id) := by
 unfold coreK
 split
 ·simp only [putK_hom]
  exact tableX_hom g n' P hc _ _ _ _ fun v h => putK nv k o.dst v t l h
 ·exact callDied_hom g n' P hc _ _ _ _ _ _ _ _
 ·exact panicA_hom g n' _ fun v => kp v t l h
 ·exact deferA_hom g n' _ _ _ _ _ _
 ·rfl
theorem opStepK_hom [Env] {call : Call' α} {call' : Call' γ} (hc : CallHom g call call') (nv : Nat) (ops : Array Oper) (o : Oper) (kp : AV → K γ) (k : K γ) (t : Tm) (l : Loc) (h : Heap) (id : Nat) :
  opStepK P (g n') call nv ops o (fun x t l h => g (kp x t l h)) (fun t l h => g (k t l h)) t l h id = g (opStepK P n' call' nv ops o kp k t l h id) := by
 unfold opStepK
 rw [coreK_hom g n' P hc, putK_hom, wantedK_hom]
theorem runOpsK_hom [Env] {call : Call' α} {call' : Call' γ} (hc : CallHom g call call') (nv : Nat) (ops : Array Oper) (kp : AV → K γ) (k : K γ) : ∀ (os : List Oper) (t : Tm) (l : Loc) (h : Heap),
  runOpsK P (g n') call nv ops (fun x t l h => g (kp x t l h)) (fun t l h => g (k t l h)) os t l h = g (runOpsK P n' call' nv ops kp k os t l h)
 | [], _, _, _ => rfl
 | o :: os, t, l, h => by
  have ih : runOpsK P (g n') call nv ops (fun x t l h => g (kp x t l h)) (fun t l h => g (k t l h)) os = fun t l h => g (runOpsK P n' call' nv ops kp k os t l h) := by
   funext t l h; exact runOpsK_hom hc nv ops kp k os t l h
  show opStepK P (g n') call nv ops o (fun x t l h => g (kp x t l h)) (runOpsK P (g n') call nv ops (fun x t l h => g (kp x t l h)) (fun t l h => g (k t l h)) os) t l h h.next = g (opStepK P n' call' nv ops o kp (runOpsK P n' call' nv ops kp k os) t l h h.next)
  rw [ih]
  exact opStepK_hom g n' P hc nv ops o kp _ t l h h.next
theorem callD_hom [Env] {call : Call' α} {call' : Call' γ} (hc : CallHom g call call') (ids : List Nat) : CallHom g (callD (g n') call ids) (callD n' call' ids) := fun f args h k => by
 have h1 : ∀ (fa : List AV) (q : AV → Bool), call f fa (hide ids h.shut) (fun v h' => bi (Nat.ble h.next h'.next && q v) (g (k v ((back h ids h').win h.lim h.top 0))) (g n')) = g (call' f fa (hide ids h.shut) fun v h' => bi (Nat.ble h.next h'.next && q v) (k v ((back h ids h').win h.lim h.top 0)) n') := fun fa q => by
  simp only [bi_hom]
  exact hc f fa _ fun v h' => bi (Nat.ble h.next h'.next && q v) (k v ((back h ids h').win h.lim h.top 0)) n'
 have h2 : call f args (hide ids h.shut) (fun v h' => bi (Nat.ble h.next h'.next) (g (k v ((back h ids h').win h.lim h.top 0))) (g n')) = g (call' f args (hide ids h.shut) fun v h' => bi (Nat.ble h.next h'.next) (k v ((back h ids h').win h.lim h.top 0)) n') := by
  simp only [bi_hom]
  exact hc f args _ fun v h' => bi (Nat.ble h.next h'.next) (k v ((back h ids h').win h.lim h.top 0)) n'
 unfold callD
 rw [h2]
 simp only [h1]
 rw [on_hom g n', bi_hom g]
theorem stepI_hom [Env] {call : Call' α} {call' : Call' γ} (hc : CallHom g call call') (nv : Nat) (Dp : List Nat) (ops : Array Oper) (base j b : Nat) (o : Oper) (ids : List Nat) (k : K γ) (t : Tm) (l : Loc) (h : Heap) :
  stepI P (g n') call nv Dp ops base j b o ids (fun t l h => g (k t l h)) t l h = g (stepI P n' call' nv Dp ops base j b o ids k t l h) := by
 unfold stepI
 split
 ·exact opStep_hom g n' P (callD_hom g n' hc _) nv ops o k t l h _
 ·rw [← bi_hom g]
  congr 1
  exact opStep_hom g n' P hc nv ops o (fun t l h' => k t l ((back h ids h').look 0)) t l _ _
 ·rw [← bi_hom g]
  congr 1
  exact opStep_hom g n' P hc nv ops o (fun t l h' => k t l ((back h ids h').look 0)) t l _ _
 ·exact opStep_hom g n' P hc nv ops o (fun t l h' => k t l (h'.look 0)) t l _ _
theorem stepD_hom [Env] {call : Call' α} {call' : Call' γ} (hc : CallHom g call call') (nv : Nat) (Dp : List Nat) (ops : Array Oper) (bs : List Nat) (base j b : Nat) (o : Oper) (k : K γ) (t : Tm) (l : Loc) (h : Heap) :
  stepD P (g n') call nv Dp ops bs base j b o (fun t l h => g (k t l h)) t l h = g (stepD P n' call' nv Dp ops bs base j b o k t l h) := stepI_hom g n' P hc nv Dp ops base j b o _ k t l h
def StepHom (st : Nat → Nat → Oper → K α → K α) (st' : Nat → Nat → Oper → K γ → K γ) : Prop := ∀ i b o (k : K γ) t l h, st i b o (fun t l h => g (k t l h)) t l h = g (st' i b o k t l h)
theorem runX_hom [Env] {st : Nat → Nat → Oper → K α → K α} {st' : Nat → Nat → Oper → K γ → K γ} (hs : StepHom g st st') (j : Nat) (k : K γ) : ∀ (os : List Oper) (ls : List Nat) (i : Nat) (t : Tm) (l : Loc) (h : Heap),
  runX (g n') st j (fun t l h => g (k t l h)) os ls i t l h = g (runX n' st' j k os ls i t l h)
 | [], _, _, _, _, _ => rfl
 | o :: os, [], _, _, _, _ => rfl
 | o :: os, b :: ls, i, t, l, h => by
  have ih : runX (g n') st j (fun t l h => g (k t l h)) os ls (i + 1) = fun t l h => g (runX n' st' j k os ls (i + 1) t l h) := by
   funext t l h; exact runX_hom hs j k os ls (i + 1) t l h
  show bi (Nat.ble i j || Nat.testBit b j) (runX (g n') st j (fun t l h => g (k t l h)) os ls (i + 1) t l h) (st i b o (runX (g n') st j (fun t l h => g (k t l h)) os ls (i + 1)) t l h) = g (bi (Nat.ble i j || Nat.testBit b j) (runX n' st' j k os ls (i + 1) t l h) (st' i b o (runX n' st' j k os ls (i + 1)) t l h))
  rw [ih, hs, bi_hom]
theorem dieK_hom [Env] {st : Nat → Nat → Oper → K α → K α} {st' : Nat → Nat → Oper → K γ → K γ} (hs : StepHom g st st') (nv : Nat) (ops : Array Oper) (bs : List Nat) (j b : Nat) (o : Oper) (kp : AV → K γ) (k : K γ) :
  dieK (g n') st nv ops bs j b o (fun x t l h => g (kp x t l h)) (fun t l h => g (k t l h)) = fun t l h => g (dieK n' st' nv ops bs j b o kp k t l h) := by
 funext t l h
 unfold dieK
 have e : ∀ x, runX (g n') st j (fun _ _ _ => g (kp x (clrT nv t ops.toList) [] h.shut)) ops.toList bs 0 t l h = g (runX n' st' j (fun _ _ _ => kp x (clrT nv t ops.toList) [] h.shut) ops.toList bs 0 t l h) := fun x => runX_hom g n' hs j _ _ _ _ _ _ _
 simp only [e, bi_hom, pnK_hom]
theorem runD_hom [Env] {call : Call' α} {call' : Call' γ} (hc : CallHom g call call') (nv : Nat) (Dp : List Nat) (ops : Array Oper) (bs : List Nat) (base : Nat) (kp : AV → K γ) (k : K γ) : ∀ (os : List Oper) (ls : List Nat) (j : Nat) (t : Tm) (l : Loc) (h : Heap),
  runD P (g n') call nv Dp ops bs base (fun x t l h => g (kp x t l h)) (fun t l h => g (k t l h)) os ls j t l h = g (runD P n' call' nv Dp ops bs base kp k os ls j t l h)
 | [], _, _, _, _, _ => rfl
 | o :: os, [], j, t, l, h => rfl
 | o :: os, b :: ls, j, t, l, h => by
  have ih : runD P (g n') call nv Dp ops bs base (fun x t l h => g (kp x t l h)) (fun t l h => g (k t l h)) os ls (j + 1) = fun t l h => g (runD P n' call' nv Dp ops bs base kp k os ls (j + 1) t l h) := by
   funext t l h; exact runD_hom hc nv Dp ops bs base kp k os ls (j + 1) t l h
  show stepD P (g n') call nv Dp ops bs base j b o (dieK (g n') (fun i b o k => stepD P (g n') call nv Dp ops bs base i b o k) nv ops bs j b o (fun x t l h => g (kp x t l h)) (runD P (g n') call nv Dp ops bs base (fun x t l h => g (kp x t l h)) (fun t l h => g (k t l h)) os ls (j + 1))) t l h =
   g (stepD P n' call' nv Dp ops bs base j b o (dieK n' (fun i b o k => stepD P n' call' nv Dp ops bs base i b o k) nv ops bs j b o kp (runD P n' call' nv Dp ops bs base kp k os ls (j + 1))) t l h)
  rw [ih, dieK_hom g n' (st' := fun i b o k => stepD P n' call' nv Dp ops bs base i b o k) fun i b o k t l h => stepD_hom g n' P hc nv Dp ops bs base i b o k t l h]
  exact stepD_hom g n' P hc nv Dp ops bs base j b o _ t l h
theorem regionD_hom [Env] {call : Call' α} {call' : Call' γ} (hc : CallHom g call call') (nv : Nat) (ops : Array Oper) (k : Ex → K γ) (t : Tm) (l : Loc) (h : Heap) :
  regionD P (g n') call nv ops (fun e t l h => g (k e t l h)) t l h = g (regionD P n' call' nv ops k t l h) := by
 unfold regionD
 rw [runD_hom g n' P hc nv (deepOf nv ops t h) ops (befores ops) h.next (fun v => k (.pn v)) (k .nx), bi_hom]
theorem nxK_hom (b : K γ) (k : Ex → K γ) : nxK (fun t l h => g (b t l h)) (fun e t l h => g (k e t l h)) = fun e t l h => g (nxK b k e t l h) := by
 funext e t l h
 cases e <;> rfl
theorem blockK_hom (id : Nat) (k : Ex → K γ) : blockK id (fun e t l h => g (k e t l h)) = fun e t l h => g (blockK id k e t l h) := by
 funext e t l h
 cases e with
 | ex j =>
  show bi (Nat.beq j id) (fun t l h => g (k .nx t l h)) (fun t l h => g (k (.ex j) t l h)) t l h = g (bi (Nat.beq j id) (k .nx) (k (.ex j)) t l h)
  cases Nat.beq j id <;> rfl
 | _ => rfl
theorem runC_hom [Env] {call : Call' α} {call' : Call' γ} (hc : CallHom g call call') (nv n : Nat) : ∀ (c : Code) (k : Ex → K γ) (t : Tm) (l : Loc) (h : Heap), runC P (g n') call nv n c (fun e t l h => g (k e t l h)) t l h = g (runC P n' call' nv n c k t l h) := by
 intro c
 induction c with
 | skip => intros; rfl
 | region i ops d =>
  intro k t l h
  cases d with
  | true => exact regionD_hom g n' P hc nv ops k t l h
  | false => exact runOpsK_hom g n' P hc nv ops (fun v => k (.pn v)) (k .nx) ops.toList t [] h
 | seq x y ihx ihy =>
  intro k t l h
  have e : runC P (g n') call nv n y (fun e t l h => g (k e t l h)) = fun t l h => g (runC P n' call' nv n y k t l h) := by funext t l h; exact ihy k t l h
  show runC P (g n') call nv n x (nxK (runC P (g n') call nv n y (fun e t l h => g (k e t l h))) (fun e t l h => g (k e t l h))) t l h = g (runC P n' call' nv n x (nxK (runC P n' call' nv n y k) k) t l h)
  rw [e, nxK_hom]
  exact ihx _ t l h
 | cond c x y ihx ihy =>
  intro k t l h
  show condC (g n') nv c (runC P (g n') call nv n x (fun e t l h => g (k e t l h))) (runC P (g n') call nv n y (fun e t l h => g (k e t l h))) t l h = g (condC n' nv c (runC P n' call' nv n x k) (runC P n' call' nv n y k) t l h)
  unfold condC
  split
  ·rw [ihx, ihy, bi_hom]
  ·rfl
 | block i x ih =>
  intro k t l h
  show runC P (g n') call nv n x (blockK i (fun e t l h => g (k e t l h))) t l h = g (runC P n' call' nv n x (blockK i k) t l h)
  rw [blockK_hom]
  exact ih _ t l h
 | loop x ih =>
  intro k t l h
  have key : ∀ m t l h, loopC (g n') (runC P (g n') call nv n x) m (fun e t l h => g (k e t l h)) t l h = g (loopC n' (runC P n' call' nv n x) m k t l h) := by
   intro m
   induction m with
   | zero => intros; rfl
   | succ m ihm =>
    intro t l h
    have e : loopC (g n') (runC P (g n') call nv n x) m (fun e t l h => g (k e t l h)) = fun t l h => g (loopC n' (runC P n' call' nv n x) m k t l h) := by funext t l h; exact ihm t l h
    show runC P (g n') call nv n x (nxK (loopC (g n') (runC P (g n') call nv n x) m (fun e t l h => g (k e t l h))) (fun e t l h => g (k e t l h))) t l h = g (runC P n' call' nv n x (nxK (loopC n' (runC P n' call' nv n x) m k) k) t l h)
    rw [e, nxK_hom]
    exact ih _ t l h
  exact key n t l h
 | scope x ih => intro k t l h; exact ih k t l h
 | exit i => intros; rfl
 | ret => intros; rfl
 | _ => intros; rfl
theorem recA_hom (st : AV) (k : AV → AV → γ) : recA (g n') st (fun v s => g (k v s)) = g (recA n' st k) := by
 cases st <;> first | rfl | skip
 rename_i l
 cases l with
 | nil => rfl
 | cons x l => cases l <;> rfl
theorem stepR_hom [Env] {call : Call' α} {call' : Call' γ} (hc : CallHom g call call') (nv : Nat) (ops : Array Oper) (o : Oper) (kp : AV → K γ) (k : KS γ) (st : AV) (t : Tm) (l : Loc) (h : Heap) :
  stepR P (g n') call nv ops o (fun x t l h => g (kp x t l h)) (fun st t l h => g (k st t l h)) st t l h = g (stepR P n' call' nv ops o kp k st t l h) := by
 unfold stepR
 have e1 : recA (g n') st (fun v st' => putK nv (fun t l h => g (k st' t l h)) o.dst v t l h) = g (recA n' st fun v st' => putK nv (k st') o.dst v t l h) := by
  simp only [putK_hom]
  exact recA_hom g n' st fun v st' => putK nv (k st') o.dst v t l h
 rw [e1, putK_hom, wantedK_hom, opStepK_hom g n' P hc, bi_hom]
theorem runR'_hom [Env] {call : Call' α} {call' : Call' γ} (hc : CallHom g call call') (nv : Nat) (ops : Array Oper) (kp : AV → K γ) (k : KS γ) : ∀ (os : List Oper) (st : AV) (t : Tm) (l : Loc) (h : Heap),
  runR' P (g n') call nv ops (fun x t l h => g (kp x t l h)) (fun st t l h => g (k st t l h)) os st t l h = g (runR' P n' call' nv ops kp k os st t l h)
 | [], _, _, _, _ => rfl
 | o :: os, st, t, l, h => by
  have ih : runR' P (g n') call nv ops (fun x t l h => g (kp x t l h)) (fun st t l h => g (k st t l h)) os = fun st t l h => g (runR' P n' call' nv ops kp k os st t l h) := by
   funext st t l h; exact runR'_hom hc nv ops kp k os st t l h
  show stepR P (g n') call nv ops o (fun x t l h => g (kp x t l h)) (runR' P (g n') call nv ops (fun x t l h => g (kp x t l h)) (fun st t l h => g (k st t l h)) os) st t l h = g (stepR P n' call' nv ops o kp (runR' P n' call' nv ops kp k os) st t l h)
  rw [ih]
  exact stepR_hom g n' P hc nv ops o kp _ st t l h
theorem none511_hom (nv : Nat) (t : Tm) (x : γ) : none511 (g n') nv t (g x) = g (none511 n' nv t x) := by
 unfold none511
 cases Nat.beq nv 512
 ·show (match Tm.get t 511 with | .un => g x | _ => g n') = g (match Tm.get t 511 with | .un => x | _ => n')
  cases Tm.get t 511 <;> rfl
 ·rfl
theorem dDie_hom [Env] (nv : Nat) (k : AV → Heap → γ) (v : AV) : dDie (g n') nv (fun v h => g (k v h)) v = fun t l h => g (dDie n' nv k v t l h) := by
 funext t l h
 exact none511_hom g n' nv t _
theorem dEnd_hom [Env] (nv : Nat) (rs : List ResultVar) (k : AV → Heap → γ) (st : AV) : dEnd P (g n') nv rs (fun v h => g (k v h)) st = fun t l h => g (dEnd P n' nv rs k st t l h) := by
 funext t l h
 unfold dEnd
 rw [on_hom g n' _ fun _ => k st h, none511_hom]
theorem dendK_hom [Env] (nv : Nat) (rs : List ResultVar) (k : AV → Heap → γ) (st : AV) : dendK P (g n') nv rs (fun v h => g (k v h)) st = fun e t l h => g (dendK P n' nv rs k st e t l h) := by
 funext e t l h
 cases e with
 | nx => exact congrFun (congrFun (congrFun (dEnd_hom g n' P nv rs k st) t) l) h
 | rt => exact congrFun (congrFun (congrFun (dEnd_hom g n' P nv rs k st) t) l) h
 | ex i => rfl
 | pn v => exact congrFun (congrFun (congrFun (dDie_hom g n' nv k v) t) l) h
theorem defOne_hom [Env] {call : Call' α} {call' : Call' γ} (hc : CallHom g call call') (n : Nat) (nv : FuncId → Nat) (e st : AV) (h : Heap) (k : AV → Heap → γ) :
  defOne P (g n') call (fun nv => runC P (g n') call nv n) nv e st h (fun v h => g (k v h)) = g (defOne P n' call' (fun nv => runC P n' call' nv n) nv e st h k) := by
 unfold defOne
 split
 ·rename_i f a c args
  refine Eq.trans ?_ (on_hom g n' _ _)
  congr 1
  funext q
  unfold defB
  rw [← bi_hom g]
  congr 1
  refine Eq.trans ?_ (on_hom g n' _ _)
  congr 1
  funext p
  have e1 : (fun st => runC P (g n') call (nv f) n p.2 (dendK P (g n') (nv f) q.rs (fun v h => g (k v h)) st)) = fun st t l h => g (runC P n' call' (nv f) n p.2 (dendK P n' (nv f) q.rs k st) t l h) := by
   funext st t l h
   rw [dendK_hom]
   exact runC_hom g n' P hc _ _ _ _ _ _ _
  have e2 : dDie (g n') (nv f) (fun v h => g (k v h)) = fun x t l h => g (dDie n' (nv f) k x t l h) := by funext x; exact dDie_hom g n' (nv f) k x
  rw [e1, e2]
  exact runR'_hom g n' P hc _ _ _ _ _ _ _ _ _
 ·rfl
theorem leaveL_hom [Env] {call : Call' α} {call' : Call' γ} (hc : CallHom g call call') (n : Nat) (nv : FuncId → Nat) (k : AV → Heap → γ) : ∀ (es : List AV) (st : AV) (h : Heap),
  leaveL P (g n') call (fun nv => runC P (g n') call nv n) nv (fun v h => g (k v h)) es st h = g (leaveL P n' call' (fun nv => runC P n' call' nv n) nv k es st h)
 | [], _, _ => rfl
 | e :: es, st, h => by
  have ih : leaveL P (g n') call (fun nv => runC P (g n') call nv n) nv (fun v h => g (k v h)) es = fun st h => g (leaveL P n' call' (fun nv => runC P n' call' nv n) nv k es st h) := by
   funext st h; exact leaveL_hom hc n nv k es st h
  show defOne P (g n') call (fun nv => runC P (g n') call nv n) nv e st h (leaveL P (g n') call (fun nv => runC P (g n') call nv n) nv (fun v h => g (k v h)) es) = g (defOne P n' call' (fun nv => runC P n' call' nv n) nv e st h (leaveL P n' call' (fun nv => runC P n' call' nv n) nv k es))
  rw [ih]
  exact defOne_hom g n' P hc n nv e st h _
theorem doneK_hom [Env] (rs : List ResultVar) (kr : AV → Heap → γ) (t : Tm) : doneK P (g n') rs (fun v h => g (kr v h)) t = fun st h => g (doneK P n' rs kr t st h) := by
 funext st h
 cases st <;> first | rfl | skip
 rename_i l
 cases l with
 | nil => exact on_hom g n' _ fun v => kr v h
 | cons x l => cases l <;> rfl
theorem leaveK_hom [Env] {call : Call' α} {call' : Call' γ} (hc : CallHom g call call') (n : Nat) (nv : FuncId → Nat) (nf : Nat) (rs : List ResultVar) (kr : AV → Heap → γ) (st : AV) (t : Tm) (l : Loc) (h : Heap) :
  leaveK P (g n') call (fun nv => runC P (g n') call nv n) nv nf rs (fun v h => g (kr v h)) st t l h = g (leaveK P n' call' (fun nv => runC P n' call' nv n) nv nf rs kr st t l h) := by
 unfold leaveK
 rw [doneK_hom]
 cases Nat.beq nf 512
 ·rw [bi_false, bi_false]
  split
  ·rfl
  ·exact leaveL_hom g n' P hc n nv _ _ _ _
  ·rfl
 ·rfl
theorem endK_hom [Env] {call : Call' α} {call' : Call' γ} (hc : CallHom g call call') (n : Nat) (nv : FuncId → Nat) (nf : Nat) (rs : List ResultVar) (kr : AV → Heap → γ) :
  endK P (g n') call (fun nv => runC P (g n') call nv n) nv nf rs (fun v h => g (kr v h)) = fun e t l h => g (endK P n' call' (fun nv => runC P n' call' nv n) nv nf rs kr e t l h) := by
 funext e t l h
 cases e with
 | ex i => rfl
 | _ => exact leaveK_hom g n' P hc n nv nf rs kr _ t l h
theorem callF_hom [Env] (cfg : Cfg) : ∀ n, CallHom g (callF P (g n') cfg n) (callF P n' cfg n)
 | 0 => fun _ _ _ _ => rfl
 | n + 1 => by
  intro f args h k
  have ih := callF_hom cfg n
  show Option.rec (motive := fun _ => α) (on (ovX (g n') cfg f args h (fun v h => g (k v h))) (bodyOf P f) (fun q => callB P (g n') cfg (callF P (g n') cfg n) (fun nv => runC P (g n') (callF P (g n') cfg n) nv n) f q args h (fun v h => g (k v h)))) (fun v => g (k v h)) (memoOf cfg f args) =
   g (Option.rec (motive := fun _ => γ) (on (ovX n' cfg f args h k) (bodyOf P f) fun q => callB P n' cfg (callF P n' cfg n) (fun nv => runC P n' (callF P n' cfg n) nv n) f q args h k) (fun v => k v h) (memoOf cfg f args))
  cases memoOf cfg f args with
  | some v => rfl
  | none =>
  show on (ovX (g n') cfg f args h (fun v h => g (k v h))) (bodyOf P f) (fun q => callB P (g n') cfg (callF P (g n') cfg n) (fun nv => runC P (g n') (callF P (g n') cfg n) nv n) f q args h (fun v h => g (k v h))) =
   g (on (ovX n' cfg f args h k) (bodyOf P f) fun q => callB P n' cfg (callF P n' cfg n) (fun nv => runC P n' (callF P n' cfg n) nv n) f q args h k)
  have hb : ∀ q, callB P (g n') cfg (callF P (g n') cfg n) (fun nv => runC P (g n') (callF P (g n') cfg n) nv n) f q args h (fun v h => g (k v h)) = g (callB P n' cfg (callF P n' cfg n) (fun nv => runC P n' (callF P n' cfg n) nv n) f q args h k) := by
   intro q
   unfold callB
   have e1 : ownR (g n') h (fun v h => g (k v h)) = fun v h' => g (ownR n' h k v h') := by
    funext v h'
    exact on_hom g n' _ fun v => k v h
   dsimp only
   rw [e1, endK_hom g n' P ih, endK_hom g n' P ih, runC_hom g n' P ih, runC_hom g n' P ih, bi_hom, bi_hom]
  have ho : ovX (g n') cfg f args h (fun v h => g (k v h)) = g (ovX n' cfg f args h k) := by
   unfold ovX
   rw [← bi_hom g]
   congr 1
   unfold ovN
   split
   ·exact bi_hom g _ _ _
   ·rfl
  rw [ho]
  cases bodyOf P f with
  | none => rfl
  | some q => exact hb q
end
end Go.Zev
/-
  Drawn regions: heaps are what they hold; what an operation that calls nothing does to a heap.
-/
set_option linter.unusedSimpArgs false
set_option linter.unusedVariables false
namespace Go.Zev
open Go
def undig : D8 → Nat
 | .a => 0 | .b => 1 | .c => 2 | .d => 3 | .e => 4 | .f => 5 | .g => 6 | .h => 7
theorem undig_lt (k : D8) : undig k < 8 := by cases k <;> decide
theorem dig_undig (k : D8) : dig (undig k) = k := by cases k <;> rfl
theorem B0.ext {t t' : B0} (h : ∀ k, B0.get k t = B0.get k t') : t = t' := by
 cases t; cases t'
 have := h .a; have := h .b; have := h .c; have := h .d; have := h .e; have := h .f; have := h .g; have := h .h
 simp only [B0.get] at *
 simp only [*]
theorem B1.ext {t t' : B1} (h : ∀ k, B1.get k t = B1.get k t') : t = t' := by
 cases t; cases t'
 have := h .a; have := h .b; have := h .c; have := h .d; have := h .e; have := h .f; have := h .g; have := h .h
 simp only [B1.get] at *
 simp only [*]
theorem B2.ext {t t' : B2} (h : ∀ k, B2.get k t = B2.get k t') : t = t' := by
 cases t; cases t'
 have := h .a; have := h .b; have := h .c; have := h .d; have := h .e; have := h .f; have := h .g; have := h .h
 simp only [B2.get] at *
 simp only [*]
theorem B3.ext {t t' : B3} (h : ∀ k, B3.get k t = B3.get k t') : t = t' := by
 cases t; cases t'
 have := h .a; have := h .b; have := h .c; have := h .d; have := h .e; have := h .f; have := h .g; have := h .h
 simp only [B3.get] at *
 simp only [*]
theorem B4.ext {t t' : B4} (h : ∀ k, B4.get k t = B4.get k t') : t = t' := by
 cases t; cases t'
 have := h .a; have := h .b; have := h .c; have := h .d; have := h .e; have := h .f; have := h .g; have := h .h
 simp only [B4.get] at *
 simp only [*]
theorem L0.ext {t t' : L0} (h : ∀ k, L0.get k t = L0.get k t') : t = t' := by
 cases t; cases t'
 have := h .a; have := h .b; have := h .c; have := h .d; have := h .e; have := h .f; have := h .g; have := h .h
 simp only [L0.get] at *
 simp only [*]
theorem L1.ext {t t' : L1} (h : ∀ k, L1.get k t = L1.get k t') : t = t' := by
 cases t; cases t'
 have := h .a; have := h .b; have := h .c; have := h .d; have := h .e; have := h .f; have := h .g; have := h .h
 simp only [L1.get] at *
 simp only [*]
theorem L2.ext {t t' : L2} (h : ∀ k, L2.get k t = L2.get k t') : t = t' := by
 cases t; cases t'
 have := h .a; have := h .b; have := h .c; have := h .d; have := h .e; have := h .f; have := h .g; have := h .h
 simp only [L2.get] at *
 simp only [*]
theorem digits5 [Env] (q0 q1 q2 q3 q4 : D8) : ∃ k, k < 32768 ∧ d0 k = q0 ∧ d1 k = q1 ∧ d2 k = q2 ∧ d3 k = q3 ∧ d4 k = q4 := by
 have ha := undig_lt q0; have hb := undig_lt q1; have hc := undig_lt q2; have hd := undig_lt q3; have he := undig_lt q4
 refine ⟨undig q0 + 8 * undig q1 + 64 * undig q2 + 512 * undig q3 + 4096 * undig q4, by omega, ?_, ?_, ?_, ?_, ?_⟩
 ·show dig ((undig q0 + 8 * undig q1 + 64 * undig q2 + 512 * undig q3 + 4096 * undig q4) % 8) = _; rw [show (undig q0 + 8 * undig q1 + 64 * undig q2 + 512 * undig q3 + 4096 * undig q4) % 8 = undig q0 by omega, dig_undig]
 ·show dig ((undig q0 + 8 * undig q1 + 64 * undig q2 + 512 * undig q3 + 4096 * undig q4) / 8 % 8) = _; rw [show (undig q0 + 8 * undig q1 + 64 * undig q2 + 512 * undig q3 + 4096 * undig q4) / 8 % 8 = undig q1 by omega, dig_undig]
 ·show dig ((undig q0 + 8 * undig q1 + 64 * undig q2 + 512 * undig q3 + 4096 * undig q4) / 64 % 8) = _; rw [show (undig q0 + 8 * undig q1 + 64 * undig q2 + 512 * undig q3 + 4096 * undig q4) / 64 % 8 = undig q2 by omega, dig_undig]
 ·show dig ((undig q0 + 8 * undig q1 + 64 * undig q2 + 512 * undig q3 + 4096 * undig q4) / 512 % 8) = _; rw [show (undig q0 + 8 * undig q1 + 64 * undig q2 + 512 * undig q3 + 4096 * undig q4) / 512 % 8 = undig q3 by omega, dig_undig]
 ·show dig ((undig q0 + 8 * undig q1 + 64 * undig q2 + 512 * undig q3 + 4096 * undig q4) / 4096 % 8) = _; rw [show (undig q0 + 8 * undig q1 + 64 * undig q2 + 512 * undig q3 + 4096 * undig q4) / 4096 % 8 = undig q4 by omega, dig_undig]
theorem digits3 [Env] (q0 q1 q2 : D8) : ∃ k, k < 512 ∧ d0 k = q0 ∧ d1 k = q1 ∧ d2 k = q2 := by
 have ha := undig_lt q0; have hb := undig_lt q1; have hc := undig_lt q2
 refine ⟨undig q0 + 8 * undig q1 + 64 * undig q2, by omega, ?_, ?_, ?_⟩
 ·show dig ((undig q0 + 8 * undig q1 + 64 * undig q2) % 8) = _; rw [show (undig q0 + 8 * undig q1 + 64 * undig q2) % 8 = undig q0 by omega, dig_undig]
 ·show dig ((undig q0 + 8 * undig q1 + 64 * undig q2) / 8 % 8) = _; rw [show (undig q0 + 8 * undig q1 + 64 * undig q2) / 8 % 8 = undig q1 by omega, dig_undig]
 ·show dig ((undig q0 + 8 * undig q1 + 64 * undig q2) / 64 % 8) = _; rw [show (undig q0 + 8 * undig q1 + 64 * undig q2) / 64 % 8 = undig q2 by omega, dig_undig]
theorem Hp.ext [Env] {t t' : Hp} (h : ∀ k, k < 32768 → Hp.get t k = Hp.get t' k) : t = t' := by
 refine B4.ext fun q4 => B3.ext fun q3 => B2.ext fun q2 => B1.ext fun q1 => B0.ext fun q0 => ?_
 obtain ⟨k, h0, rfl, rfl, rfl, rfl, rfl⟩ := digits5 q0 q1 q2 q3 q4
 exact h k h0
theorem Tm.ext [Env] {t t' : Tm} (h : ∀ k, k < 512 → Tm.get t k = Tm.get t' k) : t = t' := by
 refine L2.ext fun q2 => L1.ext fun q1 => L0.ext fun q0 => ?_
 obtain ⟨k, h0, rfl, rfl, rfl⟩ := digits3 q0 q1 q2
 exact h k h0
theorem Tm.set_comm [Env] (t : Tm) {d d' : Nat} (v v' : AV) (hd : d < 512) (hd' : d' < 512) (hne : d ≠ d') : Tm.set (Tm.set t d v) d' v' = Tm.set (Tm.set t d' v') d v := by
 refine Tm.ext fun k hk => ?_
 rw [Tm.get_set _ _ hk hd', Tm.get_set _ _ hk hd, Tm.get_set _ _ hk hd, Tm.get_set _ _ hk hd']
 by_cases e : k = d <;> by_cases e' : k = d' <;> simp [e, e'] <;> omega
theorem Heap.eq [Env] {h h' : Heap} (h1 : h.next = h'.next) (h2 : h.lim = h'.lim) (h3 : h.top = h'.top) (h4 : h.mask = h'.mask) (h5 : ∀ k, h.raw k = h'.raw k) : h = h' := by
 obtain ⟨n, l, p, m, t⟩ := h
 obtain ⟨n', l', p', m', t'⟩ := h'
 obtain rfl : n = n' := h1
 obtain rfl : l = l' := h2
 obtain rfl : p = p' := h3
 obtain rfl : m = m' := h4
 congr 1
 refine Hp.ext fun k hk => ?_
 have := h5 k
 unfold Heap.raw at this
 have hb : Nat.blt k cap = true := blt_iff.2 hk
 rw [hb] at this
 exact this
theorem Heap.raw_ge {h : Heap} {k : Nat} (hk : ¬ k < cap) : h.raw k = .none := by
 cases hr : h.raw k with
 | none => rfl
 | _ => exact absurd (Heap.raw_cap (by rw [hr]; intro e; cases e)) hk
@[simp] theorem Heap.raw_look (h : Heap) (m k : Nat) : (h.look m).raw k = h.raw k := by cases h; rfl
@[simp] theorem Heap.raw_shut (h : Heap) (k : Nat) : h.shut.raw k = h.raw k := by cases h; rfl
@[simp] theorem Heap.raw_win (h : Heap) (a b m k : Nat) : (h.win a b m).raw k = h.raw k := by cases h; rfl
@[simp] theorem Heap.raw_open (h : Heap) (n k : Nat) : (h.open n).raw k = h.raw k := by cases h; rfl
@[simp] theorem Heap.next_look (h : Heap) (m : Nat) : (h.look m).next = h.next := by cases h; rfl
@[simp] theorem Heap.next_shut (h : Heap) : h.shut.next = h.next := by cases h; rfl
@[simp] theorem Heap.next_win (h : Heap) (a b m : Nat) : (h.win a b m).next = h.next := by cases h; rfl
@[simp] theorem Heap.next_open (h : Heap) (n : Nat) : (h.open n).next = h.next + n := by cases h; rfl
@[simp] theorem Heap.lim_look (h : Heap) (m : Nat) : (h.look m).lim = h.lim := by cases h; rfl
@[simp] theorem Heap.top_look (h : Heap) (m : Nat) : (h.look m).top = h.top := by cases h; rfl
@[simp] theorem Heap.mask_look (h : Heap) (m : Nat) : (h.look m).mask = m := by cases h; rfl
@[simp] theorem Heap.lim_shut (h : Heap) : h.shut.lim = far := by cases h; rfl
@[simp] theorem Heap.top_shut (h : Heap) : h.shut.top = far := by cases h; rfl
@[simp] theorem Heap.mask_shut (h : Heap) : h.shut.mask = 0 := by cases h; rfl
@[simp] theorem Heap.lim_win (h : Heap) (a b m : Nat) : (h.win a b m).lim = a := by cases h; rfl
@[simp] theorem Heap.top_win (h : Heap) (a b m : Nat) : (h.win a b m).top = b := by cases h; rfl
@[simp] theorem Heap.mask_win (h : Heap) (a b m : Nat) : (h.win a b m).mask = m := by cases h; rfl
@[simp] theorem Heap.lim_open (h : Heap) (n : Nat) : (h.open n).lim = h.next := by cases h; rfl
@[simp] theorem Heap.top_open (h : Heap) (n : Nat) : (h.open n).top = h.next + n := by cases h; rfl
@[simp] theorem Heap.mask_open (h : Heap) (n : Nat) : (h.open n).mask = 0 := by cases h; rfl
theorem Heap.raw_set' [Env] (h : Heap) (k : Nat) (x : Blk) (j : Nat) (hx : x = .none ∨ k < cap) : (h.set k x).raw j = if j = k then x else h.raw j := by
 rw [Heap.raw_set]
 by_cases e : j = k
 ·subst e
  rcases hx with rfl | hx
  ·by_cases hc : j < cap
   ·rw [if_pos ⟨rfl, hc⟩, if_pos rfl]
   ·rw [if_neg (fun x => hc x.2), if_pos rfl, Heap.raw_ge hc]
  ·rw [if_pos ⟨rfl, hx⟩, if_pos rfl]
 ·rw [if_neg (fun x => e x.1), if_neg e]
theorem raw_hide0 [Env] : ∀ (ids : List Nat) (h : Heap) (k : Nat), (hide0 ids h).raw k = if k ∈ ids then .none else h.raw k
 | [], h, k => by simp [hide0]
 | b :: ids, h, k => by
  show (hide0 ids (h.set b .none)).raw k = _
  rw [raw_hide0 ids, Heap.raw_set' _ _ _ _ (.inl rfl)]
  by_cases e : k ∈ ids <;> by_cases e' : k = b <;> simp [e, e']
theorem raw_back0 [Env] (h0 : Heap) : ∀ (ids : List Nat) (h : Heap) (k : Nat), (back0 h0 ids h).raw k = if k ∈ ids then h0.raw k else h.raw k
 | [], h, k => by simp [back0]
 | b :: ids, h, k => by
  show (back0 h0 ids (h.set b (h0.raw b))).raw k = _
  have hx : h0.raw b = .none ∨ b < cap := by
   by_cases hb : b < cap
   ·exact .inr hb
   ·exact .inl (Heap.raw_ge hb)
  rw [raw_back0 h0 ids, Heap.raw_set' _ _ _ _ hx]
  by_cases e : k ∈ ids <;> by_cases e' : k = b <;> simp [e, e']
theorem win_hide0 : ∀ (ids : List Nat) (h : Heap), (hide0 ids h).next = h.next ∧ (hide0 ids h).lim = h.lim ∧ (hide0 ids h).top = h.top ∧ (hide0 ids h).mask = h.mask
 | [], h => ⟨rfl, rfl, rfl, rfl⟩
 | b :: ids, h => by
  have h1 := win_hide0 ids (h.set b .none)
  have h2 := Heap.win_set h b .none
  rw [Heap.next_set, h2.1, h2.2.1, h2.2.2] at h1
  exact h1
theorem win_back0 (h0 : Heap) : ∀ (ids : List Nat) (h : Heap), (back0 h0 ids h).next = h.next ∧ (back0 h0 ids h).lim = h.lim ∧ (back0 h0 ids h).top = h.top ∧ (back0 h0 ids h).mask = h.mask
 | [], h => ⟨rfl, rfl, rfl, rfl⟩
 | b :: ids, h => by
  have h1 := win_back0 h0 ids (h.set b (h0.raw b))
  have h2 := Heap.win_set h b (h0.raw b)
  rw [Heap.next_set, h2.1, h2.2.1, h2.2.2] at h1
  exact h1
abbrev Hid (ids : List Nat) (k : Nat) : Prop := k ∈ ids ∨ far ∈ ids
theorem far_mem {ids : List Nat} : lany (Nat.beq far) ids = true ↔ far ∈ ids := by
 rw [lany_eq, List.any_eq_true]
 constructor
 ·rintro ⟨y, h1, h2⟩; rw [beq_iff.1 h2]; exact h1
 ·intro h; exact ⟨far, h, beq_iff.2 rfl⟩
theorem raw_hide [Env] (ids : List Nat) (h : Heap) (k : Nat) : (hide ids h).raw k = if Hid ids k then .none else h.raw k := by
 unfold hide
 cases hf : lany (Nat.beq far) ids with
 | true =>
  rw [if_pos (.inr (far_mem.1 hf))]
  exact Heap.raw_empty k
 | false =>
  have hn : far ∉ ids := fun e => by rw [far_mem.2 e] at hf; cases hf
  show (hide0 ids h).raw k = _
  rw [raw_hide0]
  by_cases e : k ∈ ids
  ·rw [if_pos e, if_pos (.inl e)]
  ·rw [if_neg e, if_neg (fun x => x.elim e hn)]
theorem raw_back [Env] (h0 : Heap) (ids : List Nat) (h : Heap) (k : Nat) : (back h0 ids h).raw k = if Hid ids k then h0.raw k else h.raw k := by
 unfold back
 cases hf : lany (Nat.beq far) ids with
 | true =>
  rw [if_pos (.inr (far_mem.1 hf))]
  rfl
 | false =>
  have hn : far ∉ ids := fun e => by rw [far_mem.2 e] at hf; cases hf
  show (back0 h0 ids h).raw k = _
  rw [raw_back0]
  by_cases e : k ∈ ids
  ·rw [if_pos e, if_pos (.inl e)]
  ·rw [if_neg e, if_neg (fun x => x.elim e hn)]
theorem win_hide [Env] (ids : List Nat) (h : Heap) : (hide ids h).next = h.next ∧ (hide ids h).lim = h.lim ∧ (hide ids h).top = h.top ∧ (hide ids h).mask = h.mask := by
 unfold hide
 cases lany (Nat.beq far) ids
 ·exact win_hide0 ids h
 ·exact ⟨rfl, rfl, rfl, rfl⟩
theorem win_back [Env] (h0 : Heap) (ids : List Nat) (h : Heap) : (back h0 ids h).next = h.next ∧ (back h0 ids h).lim = h.lim ∧ (back h0 ids h).top = h.top ∧ (back h0 ids h).mask = h.mask := by
 unfold back
 cases lany (Nat.beq far) ids
 ·exact win_back0 h0 ids h
 ·exact ⟨rfl, rfl, rfl, rfl⟩
theorem see_eq (h : Heap) (k : Nat) : h.see k = true ↔ k < h.lim ∨ h.top ≤ k ∨ Nat.testBit h.mask (k - h.lim) = true := by
 unfold Heap.see
 by_cases h1 : k < h.lim
 ·rw [blt_iff.2 h1]; simp [h1]
 ·have e : Nat.blt k h.lim = false := by cases hb : Nat.blt k h.lim; rfl; exact absurd (blt_iff.1 hb) h1
  rw [e, bi_false]
  by_cases h2 : h.top ≤ k
  ·rw [ble_iff.2 h2]; simp [h2]
  ·have e2 : Nat.ble h.top k = false := by cases hb : Nat.ble h.top k; rfl; exact absurd (ble_iff.1 hb) h2
   rw [e2, bi_false]; simp [h1, h2]
theorem Heap.get_eq (h : Heap) (k : Nat) : h.get k = if h.see k = true then h.raw k else .none := by unfold Heap.get; rw [bi_eq]
structure Eff where
 v : AV
 kill : Option (Nat × Blk)
 nw : Option Blk
noncomputable def killO (kill : Option (Nat × Blk)) (h : Heap) : Heap := match kill with | some q => h.set q.1 q.2 | none => h
noncomputable def killR (kill : Option (Nat × Blk)) (k : Nat) (old : Blk) : Blk := match kill with | some q => if k = q.1 ∧ q.1 < cap then q.2 else old | none => old
theorem killR_ne {kill : Option (Nat × Blk)} {k : Nat} (old : Blk) (h : ∀ x, kill ≠ some (k, x)) : killR kill k old = old := by
 cases kill with
 | none => rfl
 | some q => exact if_neg fun e => h q.2 (by rw [e.1])
@[simp] theorem killR_none (k : Nat) (old : Blk) : killR none k old = old := rfl
noncomputable def newO (id : Nat) (nw : Option Blk) (h : Heap) : Heap := match nw with | some x => h.new id x | none => h
noncomputable def appE (e : Eff) (id : Nat) (h : Heap) : Heap := newO id e.nw (killO e.kill h)
theorem raw_kill (kill : Option (Nat × Blk)) (h : Heap) (k : Nat) : (killO kill h).raw k = killR kill k (h.raw k) := by
 cases kill with
 | none => rfl
 | some b => exact Heap.raw_set _ _ _ _
theorem raw_appE [Env] (e : Eff) (id : Nat) (h : Heap) (k : Nat) : (appE e id h).raw k = match e.nw with
  | some x => if k = id ∧ id < cap then x else killR e.kill k (h.raw k)
  | none => killR e.kill k (h.raw k) := by
 unfold appE newO
 cases e.nw with
 | none => exact raw_kill _ _ _
 | some x => dsimp only; rw [Heap.raw_new, raw_kill]
theorem win_kill (kill : Option (Nat × Blk)) (h : Heap) : (killO kill h).next = h.next ∧ (killO kill h).lim = h.lim ∧ (killO kill h).top = h.top ∧ (killO kill h).mask = h.mask := by
 cases kill with
 | none => exact ⟨rfl, rfl, rfl, rfl⟩
 | some b => exact ⟨Heap.next_set _ _ _, Heap.win_set _ _ _⟩
theorem win_appE [Env] (e : Eff) (id : Nat) (h : Heap) (hid : id < h.next) : (appE e id h).next = h.next ∧ (appE e id h).lim = h.lim ∧ (appE e id h).top = h.top ∧ (appE e id h).mask = h.mask := by
 unfold appE newO
 have hk := win_kill e.kill h
 cases e.nw with
 | none => exact hk
 | some x =>
  dsimp only
  have hw := Heap.win_new (killO e.kill h) id x
  rw [Heap.next_new, hk.1, if_neg (by omega), hw.1, hw.2.1, hw.2.2, hk.2.1, hk.2.2.1, hk.2.2.2]
  exact ⟨rfl, rfl, rfl, rfl⟩
end Go.Zev

/-
  Drawn regions: the effect of an operation that calls nothing.
-/
set_option linter.unusedSimpArgs false
set_option linter.unusedVariables false
namespace Go.Zev
open Go
section
variable (P : Program)
noncomputable def rdV (g : Nat → Blk) (x : AV) (n : Nat) : Option (List AV) :=
 match x with
 | .fp cs => sub cs 0 n
 | .p b i off => match g b with | .cells _ el => rdEl el i off n | _ => none
 | _ => none
noncomputable def loadV (g : Nat → Blk) (t : TypeId) (x : AV) : Option Eff :=
 bi (knownT P t) (bi (isAggT P t) (bi (Nat.blt 0 (szOf P t)) (on none (rdV g x (szOf P t)) fun cs => some ⟨.agg cs, none, none⟩) none) (on none (rdV g x 1) fun l => on none (lnth l 0) fun v => some ⟨v, none, none⟩)) none
noncomputable def elemsV (g : Nat → Blk) (sz : Nat) (x : AV) : Option (List (List AV)) :=
 match x with
 | .nsl | .es => some []
 | .fs s _ el => bi (Nat.beq s sz) (some el) none
 | .sl b s start len _ _ => bi (Nat.beq s sz) (match g b with
  | .cells _ el => (fun l => bi (lhas l len) (some l) none) (ltake (ldrop el start) len)
  | _ => none) none
 | _ => none
noncomputable def appSlV (id sz b start len : Nat) (full : Bool) (src : List (List AV)) (n : Nat) (el : List (List AV)) : Option Eff :=
 bi full ((fun l => bi (lhas l len) (some ⟨appN id sz (len + n), none, some (.cells sz (lapp l src))⟩) none) (ltake (ldrop el start) len))
  (bi (Nat.beq start 0 && lhas el len) (some ⟨appN id sz (len + n), some (b, .none), some (.cells sz (lapp el src))⟩) none)
noncomputable def appEV (g : Nat → Blk) (id sz : Nat) (x : AV) (src : List (List AV)) (n : Nat) : Option Eff :=
 match x with
 | .nsl | .es => some ⟨appN id sz n, none, some (.cells sz src)⟩
 | .fs s true el => bi (Nat.beq s sz && onesAll el && Nat.ble (llen el) most) (some ⟨appN id sz (llen el + n), none, some (.cells sz (lapp el src))⟩) none
 | .sl b s start len _ full => bi (Nat.beq s sz && Nat.ble len most) (match g b with | .cells _ el => appSlV id sz b start len full src n el | _ => none) none
 | _ => none
noncomputable def hereV (g : Nat → Blk) (x : AV) : Bool :=
 match x with
 | .sl b _ st len _ false => (match g b with | .cells _ el => !(Nat.beq st 0 && lhas el len) | _ => false)
 | _ => false
noncomputable def putV (g : Nat → Blk) (sz : Nat) (x : AV) (src : List (List AV)) (n : Nat) : Option Eff :=
 match x with
 | .sl b s st len cp false => bi (Nat.beq s sz && onesAll src) (match g b with
  | .cells _ el => bi ((Nat.blt 0 len || Nat.beq st 0) && Nat.ble (len + n) cp && Nat.ble (st + len + n) (llen el)) (some ⟨.sl b sz st (len + n) cp false, some (b, .cells sz (lapp (ltake el (st + len)) (lapp src (ldrop el (st + len + n))))), none⟩) none
  | _ => none) none
 | _ => none
noncomputable def app2V (g : Nat → Blk) (id sz : Nat) (x : AV) (src : List (List AV)) : Option Eff :=
 match src with
 | [] => bi (isSl x) (some ⟨x, none, none⟩) none
 | _ => bi (onesAll src && Nat.ble (llen src) most) (bi (hereV g x) (putV g sz x src (llen src)) (appEV g id sz x src (llen src))) none
noncomputable def appendV (g : Nat → Blk) (id : Nat) (ty uy : TypeId) (x y : AV) : Option Eff :=
 on none (slOf P ty) fun q => bi (isSlT P uy && Nat.ble (bytesOf P q.1) (2 ^ 20)) (on none (elemsV g q.2.1 y) fun src => app2V g id q.2.1 x src) none
noncomputable def callV (g : Nat → Blk) (id : Nat) (ρ : Operand → AV) (args : List Operand) (ts : List TypeId) : Option Eff :=
 match args with | [x, y] => (match ts with | [ty, uy] => appendV P g id ty uy (ρ x) (ρ y) | _ => none) | _ => none
noncomputable def call0 : Call' (Option Eff) := fun _ _ _ _ => none
noncomputable def quietV (op : Op) (ρ : Operand → AV) : Option Eff := table P op none call0 ρ Heap.empty 0 fun v _ => some ⟨v, none, none⟩
noncomputable def wrtV (g : Nat → Blk) (x : AV) (n : Nat) (cs : List AV) : Option Eff :=
 match x with
 | .p b i off => match g b with | .cells sz el => on none (lnth el i) fun e => bi (Nat.ble (off + n) (llen e)) (some ⟨.un, some (b, .cells sz (lset el (newEl e cs off n) i)), none⟩) none | _ => none
 | _ => none
noncomputable def storeV (g : Nat → Blk) (t : TypeId) (x v : AV) : Option Eff := bi (knownT P t) (bi (lhas v.cells (szOf P t) && AV.ones v.cells) (wrtV g x (szOf P t) v.cells) none) none
noncomputable def effV (op : Op) (ρ : Operand → AV) (g : Nat → Blk) (id : Nat) : Option Eff :=
 match op with
 | .alloc t => on none (zeroOf P t) fun z => some ⟨.p id 0 0, none, some (.cells (llen z.cells) [z.cells])⟩
 | .box _ x => bi (isUn (ρ x)) none (some ⟨.p id 0 0, none, some (.cells (llen (ρ x).cells) [(ρ x).cells])⟩)
 | .buildSlice ty n ps => on none (slOf P ty) fun q => bi (Nat.ble (n * q.2.1) (2 ^ 24)) (fillE none q.2.1 n ρ (fun el => some ⟨.sl id q.2.1 0 n n true, none, some (.cells q.2.1 el)⟩) ps.toList (lrep q.2.2 n)) none
 | .makeSlice ty l c => on none (slOf P ty) fun q => on none (natOf (ρ l)) fun n => on none (natOf (ρ c)) fun m =>
   bi (Nat.ble n m && Nat.ble m most && Nat.ble (bytesOf P q.1) (2 ^ 20)) (some ⟨.sl id q.2.1 0 n n (Nat.beq n m), none, some (.cells q.2.1 (lrep q.2.2 n))⟩) none
 | .load t x => loadV P g t (ρ x)
 | .store t x y => storeV P g t (ρ x) (ρ y)
 | .call c => match c.callee with
  | .builtin .append => callV P g id ρ c.args.toList c.argTypes.toList
  | _ => quietV P (.call c) ρ
 | op => quietV P op ρ
end
section
variable {P : Program} {α : Type} (no : α)
theorem rdV_eq (h : Heap) (x : AV) (n : Nat) : rd h x n = rdV h.get x n := by
 unfold rd rdV
 cases x <;> rfl
theorem load_eff [Env] (h : Heap) (t : TypeId) (x : AV) (id : Nat) (k : AV → Heap → α) : loadA P no h t x (fun v => k v h) = on no (loadV P h.get t x) fun e => k e.v (appE e id h) := by
 unfold loadA loadV load1 loadN
 simp only [rdV_eq]
 cases knownT P t
 ·rfl
 cases isAggT P t
 ·show on no (rdV h.get x 1) _ = on no (on none (rdV h.get x 1) _) _
  cases rdV h.get x 1 with
  | none => rfl
  | some l => show on no (lnth l 0) _ = on no (on none (lnth l 0) _) _; cases lnth l 0 <;> rfl
 ·show bi (Nat.blt 0 (szOf P t)) (on no (rdV h.get x (szOf P t)) _) no = on no (bi (Nat.blt 0 (szOf P t)) (on none (rdV h.get x (szOf P t)) _) none) _
  cases Nat.blt 0 (szOf P t)
  ·rfl
  ·show on no (rdV h.get x (szOf P t)) _ = on no (on none (rdV h.get x (szOf P t)) _) _
   cases rdV h.get x (szOf P t) <;> rfl
theorem store_eff (h : Heap) (t : TypeId) (x v : AV) (id : Nat) (k : AV → Heap → α) : storeA P no h t x v (k .un) = on no (storeV P h.get t x v) fun e => k e.v (appE e id h) := by
 unfold storeA storeV storeN wrt wrtV wrEl
 cases knownT P t
 ·rfl
 cases (lhas v.cells (szOf P t) && AV.ones v.cells)
 ·rfl
 rw [bi_true, bi_true, bi_true, bi_true]
 cases x <;> first | rfl | skip
 rename_i b i off
 dsimp only
 cases h.get b <;> first | rfl | skip
 rename_i sz el
 dsimp only
 cases lnth el i with
 | none => rfl
 | some e =>
  show bi (Nat.ble (off + szOf P t) (llen e)) _ no = on no (bi (Nat.ble (off + szOf P t) (llen e)) _ none) _
  cases Nat.ble (off + szOf P t) (llen e) <;> rfl
theorem elems_eff (h : Heap) (sz : Nat) (x : AV) (k : List (List AV) → α) : elemsA no h sz x k = on no (elemsV h.get sz x) k := by
 unfold elemsA elemsV
 cases x <;> first | rfl | skip
 ·rename_i b s st len c f
  dsimp only
  cases Nat.beq s sz
  ·rfl
  ·rw [bi_true, bi_true]
   cases h.get b <;> first | rfl | skip
   rename_i s' el
   dsimp only
   cases lhas (ltake (ldrop el st) len) len <;> rfl
 ·rename_i s f el
  dsimp only
  cases Nat.beq s sz <;> rfl
theorem appE_eff (h : Heap) (id sz : Nat) (x : AV) (src : List (List AV)) (n : Nat) (k : AV → Heap → α) : appendE no h id sz x src n k = on no (appEV h.get id sz x src n) fun e => k e.v (appE e id h) := by
 unfold appendE appEV
 cases x <;> first | rfl | skip
 ·rename_i b s st len c f
  dsimp only
  cases (Nat.beq s sz && Nat.ble len most)
  ·rfl
  ·rw [bi_true, bi_true]
   cases h.get b <;> first | rfl | skip
   rename_i s' el
   dsimp only
   unfold appendSl appSlV
   cases f
   ·show bi (Nat.beq st 0 && lhas el len) _ no = on no (bi (Nat.beq st 0 && lhas el len) _ none) _
    cases (Nat.beq st 0 && lhas el len) <;> rfl
   ·show bi (lhas (ltake (ldrop el st) len) len) _ no = on no (bi (lhas (ltake (ldrop el st) len) len) _ none) _
    cases lhas (ltake (ldrop el st) len) len <;> rfl
 ·rename_i s f el
  cases f
  ·rfl
  ·dsimp only
   cases (Nat.beq s sz && onesAll el && Nat.ble (llen el) most) <;> rfl
theorem hereV_eq (h : Heap) (x : AV) : hereQ h x = hereV h.get x := by
 unfold hereQ hereV
 cases x <;> rfl
theorem putV_eff (h : Heap) (id sz : Nat) (x : AV) (src : List (List AV)) (n : Nat) (k : AV → Heap → α) : putR no h sz x src n k = on no (putV h.get sz x src n) fun e => k e.v (appE e id h) := by
 unfold putR putV
 cases x <;> first | rfl | skip
 rename_i b s st len c f
 cases f
 ·dsimp only
  cases (Nat.beq s sz && onesAll src)
  ·rfl
  ·rw [bi_true, bi_true]
   cases h.get b <;> first | rfl | skip
   rename_i s' el
   dsimp only
   cases ((Nat.blt 0 len || Nat.beq st 0) && Nat.ble (len + n) c && Nat.ble (st + len + n) (llen el)) <;> rfl
 ·rfl
theorem append_eff [Env] (h : Heap) (id : Nat) (ty uy : TypeId) (x y : AV) (k : AV → Heap → α) : appendY P no h id ty uy x y k = on no (appendV P h.get id ty uy x y) fun e => k e.v (appE e id h) := by
 unfold appendY appendV
 cases slOf P ty with
 | none => rfl
 | some q =>
  show bi (isSlT P uy && Nat.ble (bytesOf P q.1) (2 ^ 20)) (elemsA no h q.2.1 y _) no = on no (bi (isSlT P uy && Nat.ble (bytesOf P q.1) (2 ^ 20)) (on none (elemsV h.get q.2.1 y) _) none) _
  cases (isSlT P uy && Nat.ble (bytesOf P q.1) (2 ^ 20))
  ·rfl
  ·rw [bi_true, bi_true, elems_eff]
   cases elemsV h.get q.2.1 y with
   | none => rfl
   | some src =>
    show append3 no h id q.2.1 x src k = on no (app2V h.get id q.2.1 x src) _
    unfold append3 app2V
    cases src with
    | nil => dsimp only; cases isSl x <;> rfl
    | cons s0 ss =>
     dsimp only
     cases (onesAll (s0 :: ss) && Nat.ble (llen (s0 :: ss)) most)
     ·rfl
     ·show (bi (hereQ h x) (putR no h q.2.1 x (s0 :: ss) (llen (s0 :: ss)) k) (appendE no h id q.2.1 x (s0 :: ss) (llen (s0 :: ss)) k)) = on no (bi (hereV h.get x) (putV h.get q.2.1 x (s0 :: ss) (llen (s0 :: ss))) (appEV h.get id q.2.1 x (s0 :: ss) (llen (s0 :: ss)))) fun e => k e.v (appE e id h)
      rw [hereV_eq h x]
      cases hereV h.get x
      ·exact appE_eff no h id q.2.1 x _ _ k
      ·exact putV_eff no h id q.2.1 x _ _ k
theorem rdV_mono {g g' : Nat → Blk} {x : AV} {n : Nat} {l : List AV} (hg : ∀ b, x.blk = some b → g b ≠ .none → g' b = g b) (he : rdV g x n = some l) : rdV g' x n = some l := by
 unfold rdV at he ⊢
 cases x <;> first | exact he | skip
 rename_i b i off
 dsimp only at he ⊢
 cases hb : g b with
 | none => rw [hb] at he; cases he
 | cells s el => rw [hg b rfl (by rw [hb]; intro e; cases e), hb]; rw [hb] at he; exact he
 | iter _ _ _ => rw [hb] at he; cases he
 | map _ => rw [hb] at he; cases he
theorem elemsV_mono {g g' : Nat → Blk} {x : AV} {sz : Nat} {l : List (List AV)} (hg : ∀ b, x.blk = some b → g b ≠ .none → g' b = g b) (he : elemsV g sz x = some l) : elemsV g' sz x = some l := by
 unfold elemsV at he ⊢
 cases x <;> first | exact he | skip
 rename_i b s st len c f
 dsimp only at he ⊢
 obtain ⟨h1, he⟩ := bi_none he
 rw [h1, bi_true]
 cases hb : g b with
 | none => rw [hb] at he; cases he
 | cells s' el => rw [hg b rfl (by rw [hb]; intro e; cases e), hb]; rw [hb] at he; exact he
 | iter _ _ _ => rw [hb] at he; cases he
 | map _ => rw [hb] at he; cases he
theorem appEV_mono {g g' : Nat → Blk} {x : AV} {id sz n : Nat} {src : List (List AV)} {e : Eff} (hg : ∀ b, x.blk = some b → g b ≠ .none → g' b = g b) (he : appEV g id sz x src n = some e) : appEV g' id sz x src n = some e := by
 unfold appEV at he ⊢
 cases x <;> first | exact he | skip
 case fs s f el => cases f <;> exact he
 rename_i b s st len c f
 dsimp only at he ⊢
 obtain ⟨h1, he⟩ := bi_none he
 rw [h1, bi_true]
 cases hb : g b with
 | none => rw [hb] at he; cases he
 | cells s' el => rw [hg b rfl (by rw [hb]; intro e; cases e), hb]; rw [hb] at he; exact he
 | iter _ _ _ => rw [hb] at he; cases he
 | map _ => rw [hb] at he; cases he
theorem appRV_mono [Env] {g g' : Nat → Blk} {x : AV} {id sz n : Nat} {src : List (List AV)} {e : Eff} (hg : ∀ b, x.blk = some b → g b ≠ .none → g' b = g b) (he : bi (hereV g x) (putV g sz x src n) (appEV g id sz x src n) = some e) : bi (hereV g' x) (putV g' sz x src n) (appEV g' id sz x src n) = some e := by
 cases x <;> first | exact he | skip
 case fs s f el => exact appEV_mono hg he
 rename_i b s st len c f
 cases hb : g b with
 | cells s' el =>
  have hb' : g' b = .cells s' el := by rw [hg b rfl (by rw [hb]; intro e; cases e), hb]
  have e1 : hereV g' (.sl b s st len c f) = hereV g (.sl b s st len c f) := by unfold hereV; cases f <;> first | rfl | (dsimp only; rw [hb, hb'])
  have e2 : putV g' sz (.sl b s st len c f) src n = putV g sz (.sl b s st len c f) src n := by unfold putV; cases f <;> first | rfl | (dsimp only; rw [hb, hb'])
  have e3 : appEV g' id sz (.sl b s st len c f) src n = appEV g id sz (.sl b s st len c f) src n := by unfold appEV; dsimp only; rw [hb, hb']
  rw [e1, e2, e3]
  exact he
 | none =>
  have e1 : hereV g (.sl b s st len c f) = false := by unfold hereV; cases f <;> first | rfl | (dsimp only; rw [hb])
  rw [e1, bi_false] at he
  unfold appEV at he
  dsimp only at he
  obtain ⟨_, he⟩ := bi_none he
  rw [hb] at he; cases he
 | iter _ _ _ =>
  have e1 : hereV g (.sl b s st len c f) = false := by unfold hereV; cases f <;> first | rfl | (dsimp only; rw [hb])
  rw [e1, bi_false] at he
  unfold appEV at he
  dsimp only at he
  obtain ⟨_, he⟩ := bi_none he
  rw [hb] at he; cases he
 | map _ =>
  have e1 : hereV g (.sl b s st len c f) = false := by unfold hereV; cases f <;> first | rfl | (dsimp only; rw [hb])
  rw [e1, bi_false] at he
  unfold appEV at he
  dsimp only at he
  obtain ⟨_, he⟩ := bi_none he
  rw [hb] at he; cases he
theorem storeV_mono {g g' : Nat → Blk} {t : TypeId} {x v : AV} {e : Eff} (hg : ∀ b, x.blk = some b → g b ≠ .none → g' b = g b) (he : storeV P g t x v = some e) : storeV P g' t x v = some e := by
 unfold storeV wrtV at he ⊢
 have q1 := bi_none he
 clear he
 obtain ⟨h1, he⟩ := q1
 rw [h1, bi_true]
 have q2 := bi_none he
 clear he
 obtain ⟨h2, he⟩ := q2
 rw [h2, bi_true]
 cases x <;> first | exact he | skip
 rename_i b i off
 dsimp only at he ⊢
 cases hb : g b with
 | none => rw [hb] at he; cases he
 | cells s el => rw [hg b rfl (by rw [hb]; intro e; cases e), hb]; rw [hb] at he; exact he
 | iter _ _ _ => rw [hb] at he; cases he
 | map _ => rw [hb] at he; cases he
theorem storeV_kill {g : Nat → Blk} {t : TypeId} {x v : AV} {e : Eff} (he : storeV P g t x v = some e) : e.nw = none ∧ ∀ b c, e.kill = some (b, c) → x.blk = some b ∧ g b ≠ .none := by
 unfold storeV wrtV at he
 have q1 := bi_none he
 clear he
 obtain ⟨h1, he⟩ := q1
 have q2 := bi_none he
 clear he
 obtain ⟨h2, he⟩ := q2
 cases x <;> first | (cases he; done) | skip
 rename_i b i off
 dsimp only at he
 cases hb : g b with
 | none => rw [hb] at he; cases he
 | iter _ _ _ => rw [hb] at he; cases he
 | map _ => rw [hb] at he; cases he
 | cells s el =>
  rw [hb] at he
  have he : on none (lnth el i) _ = some e := he
  cases hl : lnth el i with
  | none => rw [hl] at he; cases he
  | some q =>
   rw [hl] at he
   obtain ⟨_, he⟩ := bi_some (c := Nat.ble (off + szOf P t) (llen q)) he
   subst he
   refine ⟨rfl, fun b' c hq => ?_⟩
   injection hq with hq
   injection hq with h3 h4
   subst h3
   exact ⟨rfl, by rw [hb]; intro e; cases e⟩
theorem appEV_kill {g : Nat → Blk} {x : AV} {id sz n : Nat} {src : List (List AV)} {e : Eff} (he : appEV g id sz x src n = some e) : ∀ b c, e.kill = some (b, c) → x.blk = some b ∧ g b ≠ .none ∧ c = .none := by
 intro b c hb
 unfold appEV at he
 cases x <;> first | (cases he; done) | skip
 ·cases he; cases hb
 ·cases he; cases hb
 ·rename_i b' s st len c f
  obtain ⟨h1, he⟩ := bi_none (c := Nat.beq s sz && Nat.ble len most) he
  cases hg : g b' with
  | none => rw [hg] at he; cases he
  | iter _ _ _ => rw [hg] at he; cases he
  | map _ => rw [hg] at he; cases he
  | cells s' el =>
   rw [hg] at he
   have he : appSlV id sz b' st len f src n el = some e := he
   unfold appSlV at he
   cases f
   ·obtain ⟨_, he⟩ := bi_some (c := Nat.beq st 0 && lhas el len) he
    subst he
    injection hb with hb
    injection hb with hb hc
    subst hb hc
    exact ⟨rfl, (by rw [hg]; intro e; cases e), rfl⟩
   ·obtain ⟨_, he⟩ := bi_some (c := lhas (ltake (ldrop el st) len) len) he
    subst he; cases hb
 ·rename_i s f el
  cases f
  ·cases he
  ·obtain ⟨_, he⟩ := bi_some (c := Nat.beq s sz && onesAll el && Nat.ble (llen el) most) he
   subst he; cases hb
theorem putV_kill {g : Nat → Blk} {x : AV} {sz n : Nat} {src : List (List AV)} {e : Eff} (he : putV g sz x src n = some e) : e.nw = none ∧ ∀ b c, e.kill = some (b, c) → x.blk = some b ∧ g b ≠ .none := by
 unfold putV at he
 cases x <;> first | (cases he; done) | skip
 rename_i b s st len cp f
 cases f
 ·dsimp only at he
  obtain ⟨h1, he⟩ := bi_none (c := Nat.beq s sz && onesAll src) he
  cases hg : g b with
  | none => rw [hg] at he; cases he
  | iter _ _ _ => rw [hg] at he; cases he
  | map _ => rw [hg] at he; cases he
  | cells s' el =>
   rw [hg] at he
   obtain ⟨_, he⟩ := bi_some (c := (Nat.blt 0 len || Nat.beq st 0) && Nat.ble (len + n) cp && Nat.ble (st + len + n) (llen el)) he
   subst he
   refine ⟨rfl, fun b' c hq => ?_⟩
   injection hq with hq
   injection hq with h3 h4
   subst h3
   exact ⟨rfl, by rw [hg]; intro e; cases e⟩
 ·cases he
end
end Go.Zev

/-
  Drawn regions: the table by its effects; what effects hang on.
-/
set_option linter.unusedSimpArgs false
set_option linter.unusedVariables false
namespace Go.Zev
open Go
section
variable {P : Program} {α : Type} (no : α)
theorem table_eff [Env] {op : Op} (hk : kindOf op < 4) (call : Call' α) (ρ : Operand → AV) (h : Heap) (id : Nat) (k : AV → Heap → α) :
  table P op no call ρ h id k = on no (effV P op ρ h.get id) fun e => k e.v (appE e id h) := by
 have quiet : ∀ {op : Op}, (∀ g : Option Eff → α, ∀ (k : AV → Option Eff), g none = no → table P op no call ρ h id (fun v _ => g (k v)) = g (table P op none call0 ρ Heap.empty 0 fun v _ => k v)) →
   (∀ k : AV → Heap → α, table P op no call ρ h id k = table P op no call ρ h id fun v _ => k v h) → table P op no call ρ h id k = on no (quietV P op ρ) fun e => k e.v (appE e id h) := by
  intro op h1 h2
  rw [h2]
  exact h1 (fun o => on no o fun e => k e.v (appE e id h)) (fun v => some ⟨v, none, none⟩) rfl
 cases op with
 | move x => rfl
 | assign x => rfl
 | pick c a b =>
  refine quiet (fun g k hg => ?_) (fun k => rfl)
  subst hg
  show evPick c a b (g none) call ρ h id (fun v _ => g (k v)) = g (evPick c a b none call0 ρ Heap.empty 0 fun v _ => k v)
  unfold evPick; split <;> rfl
 | alloc t =>
  show on no (zeroOf P t) _ = on no (on none (zeroOf P t) _) _
  cases zeroOf P t <;> rfl
 | box t x =>
  show bi (isUn (ρ x)) no _ = on no (bi (isUn (ρ x)) none _) _
  cases isUn (ρ x) <;> rfl
 | build t ps => exact quiet (fun g k hg => by subst hg; exact buildA_hom g none P _ _ _ k) (fun k => rfl)
 | buildSlice t n ps =>
  show on no (slOf P t) _ = on no (on none (slOf P t) _) _
  cases slOf P t with
  | none => rfl
  | some q =>
   show bi (Nat.ble (n * q.2.1) (2 ^ 24)) _ no = on no (bi (Nat.ble (n * q.2.1) (2 ^ 24)) _ none) _
   cases Nat.ble (n * q.2.1) (2 ^ 24)
   ·rfl
   ·exact fillE_hom (fun o => on no o fun e => k e.v (appE e id h)) none q.2.1 n ρ (fun el => some ⟨.sl id q.2.1 0 n n true, none, some (.cells q.2.1 el)⟩) ps.toList _
 | store t x y => exact store_eff no h t (ρ x) (ρ y) id k
 | load t x => exact load_eff no h t (ρ x) id k
 | nilCheck x =>
  refine quiet (fun g k hg => ?_) (fun k => ?_)
  ·subst hg
   show evNilCheck x (g none) call ρ h id (fun v _ => g (k v)) = g (evNilCheck x none call0 ρ Heap.empty 0 fun v _ => k v)
   unfold evNilCheck; split <;> rfl
  ·rfl
 | binOp op t x y t' => exact quiet (fun g k hg => by subst hg; exact binA_hom g none P _ _ _ _ k) (fun k => rfl)
 | unOp op t x => exact quiet (fun g k hg => by subst hg; exact unA_hom g none _ _ k) (fun k => rfl)
 | convert s d x => exact quiet (fun g k hg => by subst hg; exact convA_hom g none P _ _ _ k) (fun k => rfl)
 | makeInterface t x => exact quiet (fun g k hg => by subst hg; exact bi_hom g _ _ _) (fun k => rfl)
 | makeFunc f a c => rfl
 | makeSlice t l c =>
  show on no (slOf P t) _ = on no (on none (slOf P t) _) _
  cases slOf P t with
  | none => rfl
  | some q =>
   show on no (natOf (ρ l)) _ = on no (on none (natOf (ρ l)) _) _
   cases natOf (ρ l) with
   | none => rfl
   | some n =>
    show on no (natOf (ρ c)) _ = on no (on none (natOf (ρ c)) _) _
    cases natOf (ρ c) with
    | none => rfl
    | some m =>
     show bi (Nat.ble n m && Nat.ble m most && Nat.ble (bytesOf P q.1) (2 ^ 20)) _ no = on no (bi (Nat.ble n m && Nat.ble m most && Nat.ble (bytesOf P q.1) (2 ^ 20)) _ none) _
     cases (Nat.ble n m && Nat.ble m most && Nat.ble (bytesOf P q.1) (2 ^ 20)) <;> rfl
 | slice t x lo hi mx => exact quiet (fun g k hg => by subst hg; exact sliceA_hom g none P _ _ _ _ _ _ k) (fun k => rfl)
 | fieldAddr t x j => exact quiet (fun g k hg => by subst hg; exact fieldAddrA_hom g none P _ _ _ k) (fun k => rfl)
 | field t x j => exact quiet (fun g k hg => by subst hg; exact fieldA_hom g none P _ _ _ k) (fun k => rfl)
 | indexAddr t x i => exact quiet (fun g k hg => by subst hg; exact indexAddrA_hom g none P _ _ _ k) (fun k => rfl)
 | index t x i => exact quiet (fun g k hg => by subst hg; exact indexA_hom g none P _ _ _ k) (fun k => rfl)
 | typeAssert x s t ok => exact quiet (fun g k hg => by subst hg; exact assertA_hom g none P _ _ _ k) (fun k => rfl)
 | extract x i => exact quiet (fun g k hg => by subst hg; exact extractN_hom g none _ _ k) (fun k => rfl)
 | call c =>
  show evCall P c no call ρ h id k = on no (match c.callee with | .builtin .append => callV P h.get id ρ c.args.toList c.argTypes.toList | _ => quietV P (.call c) ρ) _
  have hkk : kindOf (.call c) = (match c.callee with
   | .value _ => 4
   | .builtin .append => match c.args.toList with | [.tmp _, .tmp _] => 3 | _ => 5
   | .builtin .len | .builtin .cap | .builtin .min | .builtin .max => 0
   | _ => 5) := rfl
  rw [hkk] at hk
  have hq : quietV P (.call c) ρ = evCall P c none call0 ρ Heap.empty 0 fun v _ => some ⟨v, none, none⟩ := rfl
  rw [hq]
  unfold evCall
  cases hc : c.callee with
  | value f => rw [hc] at hk; exact absurd (show (4 : Nat) < 4 from hk) (by decide)
  | invoke r n => rw [hc] at hk; exact absurd (show (5 : Nat) < 4 from hk) (by decide)
  | builtin b =>
   rw [hc] at hk
   cases b <;> first | (exact absurd (show (5 : Nat) < 4 from hk) (by decide)) | skip
   ·show evAppend P c.args.toList c.argTypes.toList no call ρ h id k = on no (callV P h.get id ρ c.args.toList c.argTypes.toList) _
    unfold evAppend callV
    generalize c.args.toList = as
    generalize c.argTypes.toList = ts
    rcases as with _ | ⟨x, _ | ⟨y, _ | ⟨z, r⟩⟩⟩ <;> first | rfl | skip
    rcases ts with _ | ⟨t, _ | ⟨u, _ | ⟨v, r⟩⟩⟩ <;> first | rfl | skip
    exact append_eff no h id t u (ρ x) (ρ y) k
   ·show evCap P c.args.toList c.argTypes.toList no call ρ h id k = on no (evCap P c.args.toList c.argTypes.toList none call0 ρ Heap.empty 0 fun v _ => some ⟨v, none, none⟩) _
    unfold evCap
    split
    ·split
     ·rename_i x _ _ t _
      have hh := capN_hom (fun o => on no o fun e => k e.v (appE e id h)) none (ρ x) fun v => some ⟨v, none, none⟩
      show bi (isSlT P t) (capN no (ρ x) fun v => k v h) no = on no (bi (isSlT P t) (capN none (ρ x) fun v => some ⟨v, none, none⟩) none) fun e => k e.v (appE e id h)
      cases isSlT P t
      ·rfl
      ·exact hh
     ·rfl
    ·rfl
   ·show evLen P c.args.toList c.argTypes.toList no call ρ h id k = on no (evLen P c.args.toList c.argTypes.toList none call0 ρ Heap.empty 0 fun v _ => some ⟨v, none, none⟩) _
    unfold evLen
    split
    ·split
     ·exact lenN_hom (fun o => on no o fun e => k e.v (appE e id h)) none _ _ _ fun v => some ⟨v, none, none⟩
     ·rfl
    ·rfl
   ·show evMinMax true c.args.toList no call ρ h id k = on no (evMinMax true c.args.toList none call0 ρ Heap.empty 0 fun v _ => some ⟨v, none, none⟩) _
    unfold evMinMax
    split
    ·exact minmax_hom (fun o => on no o fun e => k e.v (appE e id h)) none _ _ _ fun v => some ⟨v, none, none⟩
    ·rfl
   ·show evMinMax false c.args.toList no call ρ h id k = on no (evMinMax false c.args.toList none call0 ρ Heap.empty 0 fun v _ => some ⟨v, none, none⟩) _
    unfold evMinMax
    split
    ·exact minmax_hom (fun o => on no o fun e => k e.v (appE e id h)) none _ _ _ fun v => some ⟨v, none, none⟩
    ·rfl
 | _ => exact absurd (show (5 : Nat) < 4 from hk) (by decide)
end
section
variable {P : Program} {ρ ρ' : Operand → AV} {g g' : Nat → Blk} {id : Nat} {e : Eff}
theorem append_slots {c : Call} (hk : kindOf (.call c) = 3) : c.callee = .builtin .append ∧ ∃ a b, c.args.toList = [.tmp a, .tmp b] ∧ readSlots (.call c) = [a, b] := by
 have hkk : kindOf (.call c) = (match c.callee with
   | .value _ => 4
   | .builtin .append => match c.args.toList with | [.tmp _, .tmp _] => 3 | _ => 5
   | .builtin .len | .builtin .cap | .builtin .min | .builtin .max => 0
   | _ => 5) := rfl
 have hk0 := hk
 rw [hkk] at hk
 cases hc : c.callee with
 | value f => rw [hc] at hk; exact absurd (show (4 : Nat) = 3 from hk) (by decide)
 | invoke r n => rw [hc] at hk; exact absurd (show (5 : Nat) = 3 from hk) (by decide)
 | builtin b =>
  rw [hc] at hk
  cases b <;> first | (exact absurd (show (5 : Nat) = 3 from hk) (by decide)) | (exact absurd (show (0 : Nat) = 3 from hk) (by decide)) | skip
  refine ⟨rfl, ?_⟩
  have hk1 : (match c.args.toList with | [.tmp _, .tmp _] => 3 | _ => 5) = 3 := hk
  split at hk1
  ·rename_i a b hab
   refine ⟨a, b, hab, ?_⟩
   show (match c.args.toList with | [.tmp a, .tmp b] => bi (Nat.beq (kindOf (.call c)) 3) [a, b] [] | _ => []) = [a, b]
   rw [hab]
   dsimp only
   rw [hk0]
   rfl
  ·exact absurd hk1 (by decide)
theorem effV_mono [Env] {op : Op} (hk : kindOf op < 4) (hg : ∀ k ∈ readSlots op, ∀ b, (ρ (.tmp k)).blk = some b → g b ≠ .none → g' b = g b) (he : effV P op ρ g id = some e) : effV P op ρ g' id = some e := by
 cases op <;> first | exact he | skip
 ·
  rename_i t x
  cases x with
  | tmp k =>
   have hm := hg k (by simp [readSlots])
   have he : loadV P g t (ρ (.tmp k)) = some e := he
   show loadV P g' t (ρ (.tmp k)) = some e
   unfold loadV at he ⊢
   obtain ⟨h1, he⟩ := bi_none he
   rw [h1, bi_true]
   cases ha : isAggT P t
   ·rw [ha, bi_false] at he
    rw [bi_false]
    cases hr : rdV g (ρ (.tmp k)) 1 with
    | none => rw [hr] at he; cases he
    | some l => rw [rdV_mono hm hr]; rw [hr] at he; exact he
   ·rw [ha, bi_true] at he
    rw [bi_true]
    obtain ⟨h2, he⟩ := bi_none he
    rw [h2, bi_true]
    cases hr : rdV g (ρ (.tmp k)) (szOf P t) with
    | none => rw [hr] at he; cases he
    | some l => rw [rdV_mono hm hr]; rw [hr] at he; exact he
  | const v => exact absurd (show (5 : Nat) < 4 from hk) (by decide)
  | global v => exact absurd (show (5 : Nat) < 4 from hk) (by decide)
  | func v => exact absurd (show (5 : Nat) < 4 from hk) (by decide)
 ·
  rename_i t x y
  cases x with
  | tmp k => exact storeV_mono (hg k (by simp [readSlots])) he
  | const v => exact absurd (show (5 : Nat) < 4 from hk) (by decide)
  | global v => exact absurd (show (5 : Nat) < 4 from hk) (by decide)
  | func v => exact absurd (show (5 : Nat) < 4 from hk) (by decide)
 ·rename_i c
  by_cases h3 : kindOf (.call c) = 3
  ·obtain ⟨hc, a, b, hab, hs⟩ := append_slots h3
   rw [hs] at hg
   have heq : ∀ g, effV P (.call c) ρ g id = callV P g id ρ c.args.toList c.argTypes.toList := by
    intro g
    show (match c.callee with | .builtin .append => callV P g id ρ c.args.toList c.argTypes.toList | _ => quietV P (.call c) ρ) = _
    rw [hc]
   rw [heq] at he ⊢
   unfold callV at he ⊢
   rw [hab] at he ⊢
   dsimp only at he ⊢
   split at he
   ·rename_i ty uy hty
    unfold appendV at he ⊢
    cases hq : slOf P ty with
    | none => rw [hq] at he; cases he
    | some q =>
     rw [hq] at he
     obtain ⟨h1, he⟩ := bi_none (c := isSlT P uy && Nat.ble (bytesOf P q.1) (2 ^ 20)) he
     show bi (isSlT P uy && Nat.ble (bytesOf P q.1) (2 ^ 20)) (on none (elemsV g' q.2.1 (ρ (.tmp b))) fun src => app2V g' id q.2.1 (ρ (.tmp a)) src) none = some e
     rw [h1, bi_true]
     cases hr : elemsV g q.2.1 (ρ (.tmp b)) with
     | none => rw [hr] at he; cases he
     | some src =>
      rw [elemsV_mono (hg b (by simp)) hr]
      rw [hr] at he
      have he : app2V g id q.2.1 (ρ (.tmp a)) src = some e := he
      show app2V g' id q.2.1 (ρ (.tmp a)) src = some e
      unfold app2V at he ⊢
      cases src with
      | nil => exact he
      | cons s ss =>
       dsimp only at he ⊢
       obtain ⟨h2, he⟩ := bi_none he
       rw [h2, bi_true]
       exact appRV_mono (hg a (by simp)) he
   ·cases he
  ·have heq : ∀ g, effV P (.call c) ρ g id = quietV P (.call c) ρ := by
    intro g
    show (match c.callee with | .builtin .append => callV P g id ρ c.args.toList c.argTypes.toList | _ => quietV P (.call c) ρ) = _
    have hkk : kindOf (.call c) = (match c.callee with
     | .value _ => 4
     | .builtin .append => match c.args.toList with | [.tmp _, .tmp _] => 3 | _ => 5
     | .builtin .len | .builtin .cap | .builtin .min | .builtin .max => 0
     | _ => 5) := rfl
    rw [hkk] at hk h3
    cases hc : c.callee with
    | value f => rfl
    | invoke r n => rfl
    | builtin b =>
     cases b <;> first | rfl | skip
     rw [hc] at hk h3
     exfalso
     have hk1 : (match c.args.toList with | [.tmp _, .tmp _] => 3 | _ => 5) < 4 := hk
     have h31 : ¬ (match c.args.toList with | [.tmp _, .tmp _] => 3 | _ => 5) = 3 := h3
     split at hk1
     ·rename_i hab; rw [hab] at h31; exact h31 rfl
     ·exact absurd hk1 (by decide)
   rw [heq] at he ⊢
   exact he
theorem quietV_none [Env] {op : Op} {e : Eff} (he : quietV P op ρ = some e) : e.kill = none ∧ e.nw = none := by
 have hh := table_hom (Option.map fun v : AV => (⟨v, none, none⟩ : Eff)) none P (call := call0) (call' := fun _ _ _ _ => none) (fun _ _ _ _ => rfl) op ρ Heap.empty 0 (fun v _ => some v)
 have hh2 : quietV P op ρ = Option.map (fun v : AV => (⟨v, none, none⟩ : Eff)) (table P op none (fun _ _ _ _ => none) ρ Heap.empty 0 (fun v _ => some v)) := hh
 rw [hh2] at he
 cases ht : table P op none (fun _ _ _ _ => none) ρ Heap.empty 0 (fun v _ => some v) with
 | none => rw [ht] at he; cases he
 | some v => rw [ht] at he; injection he with he; subst he; exact ⟨rfl, rfl⟩
structure EffOK (op : Op) (ρ : Operand → AV) (g : Nat → Blk) (e : Eff) : Prop where
 kill : ∀ b c, e.kill = some (b, c) → (kindOf op = 3 ∨ (kindOf op = 2 ∧ writes op = true)) ∧ (∃ k ∈ readSlots op, (kindOf op = 3 → k ∈ killSlots op) ∧ (ρ (.tmp k)).blk = some b) ∧ g b ≠ .none
 nw : e.nw ≠ none → kindOf op = 1 ∨ kindOf op = 3
theorem effV_ok [Env] {op : Op} (hk : kindOf op < 4) (he : effV P op ρ g id = some e) : EffOK op ρ g e := by
 have quiet : e.kill = none ∧ e.nw = none → EffOK op ρ g e := fun h => ⟨fun b c hb => (by rw [h.1] at hb; cases hb), fun hn => absurd h.2 hn⟩
 have make : kindOf op = 1 → e.kill = none → EffOK op ρ g e := fun h1 h => ⟨fun b c hb => (by rw [h] at hb; cases hb), fun hn => .inl h1⟩
 cases op with
 | alloc t =>
  refine make rfl ?_
  have he : on none (zeroOf P t) _ = some e := he
  cases hz : zeroOf P t with
  | none => rw [hz] at he; cases he
  | some z => rw [hz] at he; injection he with he; subst he; rfl
 | box t x =>
  refine make rfl ?_
  have he : bi (isUn (ρ x)) none _ = some e := he
  cases hz : isUn (ρ x) with
  | true => rw [hz] at he; cases he
  | false => rw [hz] at he; injection he with he; subst he; rfl
 | buildSlice t n ps =>
  refine make rfl ?_
  have he : on none (slOf P t) _ = some e := he
  cases hz : slOf P t with
  | none => rw [hz] at he; cases he
  | some q =>
   rw [hz] at he
   obtain ⟨_, he⟩ := bi_none (c := Nat.ble (n * q.2.1) (2 ^ 24)) he
   have hh := fillE_hom (Option.map fun el : List (List AV) => (⟨.sl id q.2.1 0 n n true, none, some (.cells q.2.1 el)⟩ : Eff)) none q.2.1 n ρ some ps.toList (lrep q.2.2 n)
   have he2 : Option.map (fun el : List (List AV) => (⟨.sl id q.2.1 0 n n true, none, some (.cells q.2.1 el)⟩ : Eff)) (fillE none q.2.1 n ρ some ps.toList (lrep q.2.2 n)) = some e := hh.symm.trans he
   cases ht : fillE none q.2.1 n ρ some ps.toList (lrep q.2.2 n) with
   | none => rw [ht] at he2; cases he2
   | some el => rw [ht] at he2; injection he2 with he2; subst he2; rfl
 | makeSlice t l c =>
  refine make rfl ?_
  have he : on none (slOf P t) _ = some e := he
  cases hz : slOf P t with
  | none => rw [hz] at he; cases he
  | some q =>
   rw [hz] at he
   have he : on none (natOf (ρ l)) _ = some e := he
   cases hn : natOf (ρ l) with
   | none => rw [hn] at he; cases he
   | some n =>
    rw [hn] at he
    have he : on none (natOf (ρ c)) _ = some e := he
    cases hm : natOf (ρ c) with
    | none => rw [hm] at he; cases he
    | some m =>
     rw [hm] at he
     obtain ⟨_, he⟩ := bi_some (c := Nat.ble n m && Nat.ble m most && Nat.ble (bytesOf P q.1) (2 ^ 20)) he
     subst he; rfl
 | store t x y =>
  cases x with
  | tmp k =>
   obtain ⟨h1, h2⟩ := storeV_kill (show storeV P g t (ρ (.tmp k)) (ρ y) = some e from he)
   exact ⟨fun b c hb => ⟨.inr ⟨rfl, rfl⟩, ⟨k, by simp [readSlots], (fun e => absurd (show (2 : Nat) = 3 from e) (by decide)), (h2 b c hb).1⟩, (h2 b c hb).2⟩, fun hn => absurd h1 hn⟩
  | const v => exact absurd (show (5 : Nat) < 4 from hk) (by decide)
  | global v => exact absurd (show (5 : Nat) < 4 from hk) (by decide)
  | func v => exact absurd (show (5 : Nat) < 4 from hk) (by decide)
 | load t x =>
  refine quiet ?_
  have he : loadV P g t (ρ x) = some e := he
  unfold loadV at he
  obtain ⟨h1, he⟩ := bi_none he
  cases ha : isAggT P t
  ·rw [ha, bi_false] at he
   cases hr : rdV g (ρ x) 1 with
   | none => rw [hr] at he; cases he
   | some l =>
    rw [hr] at he
    have he : on none (lnth l 0) _ = some e := he
    cases hl : lnth l 0 with
    | none => rw [hl] at he; cases he
    | some v => rw [hl] at he; injection he with he; subst he; exact ⟨rfl, rfl⟩
  ·rw [ha, bi_true] at he
   obtain ⟨h2, he⟩ := bi_none he
   cases hr : rdV g (ρ x) (szOf P t) with
   | none => rw [hr] at he; cases he
   | some l => rw [hr] at he; injection he with he; subst he; exact ⟨rfl, rfl⟩
 | call c =>
  have he : (match c.callee with | .builtin .append => callV P g id ρ c.args.toList c.argTypes.toList | _ => quietV P (.call c) ρ) = some e := he
  by_cases h3 : kindOf (.call c) = 3
  ·obtain ⟨hc, a, b, hab, hs⟩ := append_slots h3
   rw [hc] at he
   have he : callV P g id ρ c.args.toList c.argTypes.toList = some e := he
   refine ⟨fun q c' hq => ?_, fun _ => .inr h3⟩
   unfold callV at he
   rw [hab] at he
   dsimp only at he
   split at he
   ·rename_i ty uy hty
    unfold appendV at he
    cases hz : slOf P ty with
    | none => rw [hz] at he; cases he
    | some z =>
     rw [hz] at he
     obtain ⟨h1, he⟩ := bi_none (c := isSlT P uy && Nat.ble (bytesOf P z.1) (2 ^ 20)) he
     cases hr : elemsV g z.2.1 (ρ (.tmp b)) with
     | none => rw [hr] at he; cases he
     | some src =>
      rw [hr] at he
      have he : app2V g id z.2.1 (ρ (.tmp a)) src = some e := he
      unfold app2V at he
      cases src with
      | nil =>
       obtain ⟨_, he⟩ := bi_some (c := isSl (ρ (.tmp a))) he
       subst he; cases hq
      | cons s ss =>
       obtain ⟨_, he⟩ := bi_none (c := onesAll (s :: ss) && Nat.ble (llen (s :: ss)) most) he
       have hks : a ∈ killSlots (.call c) := by unfold killSlots; rw [beq_iff.2 h3, bi_true, hs]; simp
       cases hh : hereV g (ρ (.tmp a)) with
       | false =>
        rw [hh, bi_false] at he
        obtain ⟨h5, h6, _⟩ := appEV_kill he q c' hq
        exact ⟨.inl h3, ⟨a, by rw [hs]; simp, fun _ => hks, h5⟩, h6⟩
       | true =>
        rw [hh, bi_true] at he
        obtain ⟨h5, h6⟩ := (putV_kill he).2 q c' hq
        exact ⟨.inl h3, ⟨a, by rw [hs]; simp, fun _ => hks, h5⟩, h6⟩
   ·cases he
  ·refine quiet ?_
   have hkk : kindOf (.call c) = (match c.callee with
    | .value _ => 4
    | .builtin .append => match c.args.toList with | [.tmp _, .tmp _] => 3 | _ => 5
    | .builtin .len | .builtin .cap | .builtin .min | .builtin .max => 0
    | _ => 5) := rfl
   rw [hkk] at hk h3
   cases hc : c.callee with
   | value f => rw [hc] at he; exact quietV_none he
   | invoke r n => rw [hc] at he; exact quietV_none he
   | builtin b =>
    rw [hc] at he hk h3
    cases b <;> first | exact quietV_none he | skip
    exfalso
    have hk1 : (match c.args.toList with | [.tmp _, .tmp _] => 3 | _ => 5) < 4 := hk
    have h31 : ¬ (match c.args.toList with | [.tmp _, .tmp _] => 3 | _ => 5) = 3 := h3
    split at hk1
    ·rename_i hab; rw [hab] at h31; exact h31 rfl
    ·exact absurd hk1 (by decide)
 | _ => exact quiet (quietV_none he)
end
end Go.Zev

/-
  Drawn regions: an operation looks at its operands alone.
-/
set_option linter.unusedSimpArgs false
set_option linter.unusedVariables false
namespace Go.Zev
open Go
section
variable {P : Program} {α : Type} (no : α) {ρ ρ' : Operand → AV}
theorem lmap_congr : ∀ {l : List Operand}, (∀ x ∈ l, ρ x = ρ' x) → lmap ρ l = lmap ρ' l
 | [], _ => rfl
 | x :: l, h => by
  show ρ x :: lmap ρ l = ρ' x :: lmap ρ' l
  rw [h x (List.mem_cons_self ..), lmap_congr fun y hy => h y (List.mem_cons_of_mem _ hy)]
theorem fillA_congr (fs : List Field) (k : List AV → α) : ∀ {ps : List (Nat × Operand)}, (∀ p ∈ ps, ρ p.2 = ρ' p.2) → fillA P no fs ρ k ps = fillA P no fs ρ' k ps
 | [], _ => rfl
 | p :: ps, h => by
  have ih := fillA_congr fs k (ps := ps) fun q hq => h q (List.mem_cons_of_mem _ hq)
  funext cells
  show on no (fieldsAt P fs p.1) (fun q => on no (ucells (ρ p.2)) fun cs => on no (lay cells q.1 q.2 cs) (fillA P no fs ρ k ps)) = on no (fieldsAt P fs p.1) (fun q => on no (ucells (ρ' p.2)) fun cs => on no (lay cells q.1 q.2 cs) (fillA P no fs ρ' k ps))
  rw [ih, h p (List.mem_cons_self ..)]
theorem fillE_congr (sz len : Nat) (k : List (List AV) → α) : ∀ {ps : List (Nat × Operand)}, (∀ p ∈ ps, ρ p.2 = ρ' p.2) → fillE no sz len ρ k ps = fillE no sz len ρ' k ps
 | [], _ => rfl
 | p :: ps, h => by
  have ih := fillE_congr sz len k (ps := ps) fun q hq => h q (List.mem_cons_of_mem _ hq)
  funext el
  show on no (ucells (ρ p.2)) (fun cs => bi (lhas cs sz && Nat.blt p.1 len) (fillE no sz len ρ k ps (lset el cs p.1)) no) = on no (ucells (ρ' p.2)) (fun cs => bi (lhas cs sz && Nat.blt p.1 len) (fillE no sz len ρ' k ps (lset el cs p.1)) no)
  rw [ih, h p (List.mem_cons_self ..)]
theorem bndO_congr {y d : Nat} {q : Option Operand} {k : Nat → α} (h : ∀ x, q = some x → ρ x = ρ' x) : bndO no ρ y d q k = bndO no ρ' y d q k := by
 cases q with
 | none => rfl
 | some x => show bnd no (ρ x) y k = bnd no (ρ' x) y k; rw [h x rfl]
theorem bnds_congr [Env] {len : Nat} {lo hi : Option Operand} {k : Nat → Nat → α} (h1 : ∀ x, lo = some x → ρ x = ρ' x) (h2 : ∀ x, hi = some x → ρ x = ρ' x) : bnds no ρ len lo hi k = bnds no ρ' len lo hi k := by
 unfold bnds
 rw [bndO_congr no h2]
 congr 1
 funext h
 exact bndO_congr no h1
theorem bndsC_congr [Env] {len y : Nat} {lo hi : Option Operand} {k : Nat → Nat → α} (h1 : ∀ x, lo = some x → ρ x = ρ' x) (h2 : ∀ x, hi = some x → ρ x = ρ' x) : bndsC no ρ len y lo hi k = bndsC no ρ' len y lo hi k := by
 unfold bndsC
 rw [bndO_congr no h2]
 congr 1
 funext h
 exact bndO_congr no h1
theorem slice_congr [Env] {ty : TypeId} {x : AV} {lo hi mx : Option Operand} {k : AV → α} (h1 : ∀ x, lo = some x → ρ x = ρ' x) (h2 : ∀ x, hi = some x → ρ x = ρ' x) (h3 : ∀ x, mx = some x → ρ x = ρ' x) :
  sliceA P no ty ρ x lo hi mx k = sliceA P no ty ρ' x lo hi mx k := by
 unfold sliceA
 cases mx with
 | none =>
  show slice2 P no ty ρ x lo hi k = slice2 P no ty ρ' x lo hi k
  unfold slice2
  cases x <;> simp only [bnds_congr no h1 h2, bndsC_congr no h1 h2]
 | some m =>
  cases lo with
  | some l =>
   cases hi with
   | none => rfl
   | some q =>
    show sliceU P no ty ρ x l q m k = sliceU P no ty ρ' x l q m k
    unfold sliceU
    rw [h3 m rfl, h2 q rfl, h1 l rfl]
  | none =>
   cases hi with
   | none => rfl
   | some q =>
    show slice3 P no ty ρ x q m k = slice3 P no ty ρ' x q m k
    unfold slice3
    rw [h3 m rfl, h2 q rfl]
theorem table_congr [Env] {op : Op} (hρ : ∀ x ∈ op.operands.toList, ρ x = ρ' x) (call : Call' α) (h : Heap) (id : Nat) (k : AV → Heap → α) : table P op no call ρ h id k = table P op no call ρ' h id k := by
 cases op with
 | move x => show k (ρ x) h = k (ρ' x) h; rw [hρ x (by simp [Op.operands])]
 | assign x => show k (ρ x) h = k (ρ' x) h; rw [hρ x (by simp [Op.operands])]
 | pick c a b =>
  show evPick c a b no call ρ h id k = evPick c a b no call ρ' h id k
  unfold evPick
  rw [hρ c (by simp [Op.operands]), hρ a (by simp [Op.operands]), hρ b (by simp [Op.operands])]
 | alloc t => rfl
 | box t x => show boxN no (ρ x) h id k = boxN no (ρ' x) h id k; rw [hρ x (by simp [Op.operands])]
 | build t ps =>
  show buildA P no t ρ ps.toList (fun v => k v h) = buildA P no t ρ' ps.toList (fun v => k v h)
  unfold buildA
  congr 1
  funext q
  rw [fillA_congr no q.1 _ (fun p hp => hρ p.2 (by simp only [Op.operands]; exact List.mem_map.2 ⟨p, hp, rfl⟩))]
 | buildSlice t n ps =>
  show buildSliceA P no h id t n ρ ps.toList k = buildSliceA P no h id t n ρ' ps.toList k
  unfold buildSliceA
  congr 1
  funext q
  rw [fillE_congr no q.2.1 n _ (fun p hp => hρ p.2 (by simp only [Op.operands]; exact List.mem_map.2 ⟨p, hp, rfl⟩))]
 | load t x => show loadA P no h t (ρ x) _ = loadA P no h t (ρ' x) _; rw [hρ x (by simp [Op.operands])]
 | store t x y => show storeA P no h t (ρ x) (ρ y) _ = storeA P no h t (ρ' x) (ρ' y) _; rw [hρ x (by simp [Op.operands]), hρ y (by simp [Op.operands])]
 | nilCheck x => show evNilCheck x no call ρ h id k = evNilCheck x no call ρ' h id k; unfold evNilCheck; rw [hρ x (by simp [Op.operands])]
 | binOp op t x y t' => show binA P no op t (ρ x) (ρ y) _ = binA P no op t (ρ' x) (ρ' y) _; rw [hρ x (by simp [Op.operands]), hρ y (by simp [Op.operands])]
 | unOp op t x => show unA no op (ρ x) (fun v => k v h) = unA no op (ρ' x) (fun v => k v h); rw [hρ x (by simp [Op.operands])]
 | convert s d x => show convA P no s d (ρ x) (fun v => k v h) = convA P no s d (ρ' x) (fun v => k v h); rw [hρ x (by simp [Op.operands])]
 | makeInterface t x => show bi (isConc P t) (k (.ifc t (ρ x)) h) no = bi (isConc P t) (k (.ifc t (ρ' x)) h) no; rw [hρ x (by simp [Op.operands])]
 | makeFunc f a c =>
  show k (.fn f (lmap ρ a.toList) (lmap ρ c.toList)) h = k (.fn f (lmap ρ' a.toList) (lmap ρ' c.toList)) h
  rw [lmap_congr fun x hx => hρ x (by simp only [Op.operands, Array.toList_append]; exact List.mem_append_left _ hx), lmap_congr fun x hx => hρ x (by simp only [Op.operands, Array.toList_append]; exact List.mem_append_right _ hx)]
 | makeSlice t l c => show makeSliceA P no h id t (ρ l) (ρ c) k = makeSliceA P no h id t (ρ' l) (ρ' c) k; rw [hρ l (by simp [Op.operands]), hρ c (by simp [Op.operands])]
 | slice t x lo hi mx =>
  show sliceA P no t ρ (ρ x) lo hi mx _ = sliceA P no t ρ' (ρ' x) lo hi mx _
  rw [hρ x (by simp [Op.operands])]
  refine slice_congr no (fun y hy => hρ y ?_) (fun y hy => hρ y ?_) (fun y hy => hρ y ?_) <;> (subst hy; simp [Op.operands])
 | fieldAddr t x j => show fieldAddrA P no t (ρ x) j _ = fieldAddrA P no t (ρ' x) j _; rw [hρ x (by simp [Op.operands])]
 | field t x j => show fieldA P no t (ρ x) j _ = fieldA P no t (ρ' x) j _; rw [hρ x (by simp [Op.operands])]
 | indexAddr t x i => show indexAddrA P no t (ρ x) (ρ i) _ = indexAddrA P no t (ρ' x) (ρ' i) _; rw [hρ x (by simp [Op.operands]), hρ i (by simp [Op.operands])]
 | index t x i => show indexA P no t (ρ x) (ρ i) _ = indexA P no t (ρ' x) (ρ' i) _; rw [hρ x (by simp [Op.operands]), hρ i (by simp [Op.operands])]
 | typeAssert x s t ok => show assertA P no (ρ x) t ok _ = assertA P no (ρ' x) t ok _; rw [hρ x (by simp [Op.operands])]
 | extract x i => show extractN no (ρ x) i _ = extractN no (ρ' x) i _; rw [hρ x (by simp [Op.operands])]
 | makeMap t r => rfl
 | insert t m key x =>
  show on no (mapOfT P t) (fun q => insertN no h q.1 (ρ m) (ρ key) (ρ x) (k .un)) = on no (mapOfT P t) (fun q => insertN no h q.1 (ρ' m) (ρ' key) (ρ' x) (k .un))
  rw [hρ m (by simp [Op.operands]), hρ key (by simp [Op.operands]), hρ x (by simp [Op.operands])]
 | lookup t m key ok =>
  show on no (mapOfT P t) (fun q => lookupN no h q.1 (zeroOf P q.2) (ρ m) (ρ key) ok fun v => k v h) = on no (mapOfT P t) (fun q => lookupN no h q.1 (zeroOf P q.2) (ρ' m) (ρ' key) ok fun v => k v h)
  rw [hρ m (by simp [Op.operands]), hρ key (by simp [Op.operands])]
 | range t x =>
  show bi (isStr P t) (match ρ x with | .s len val => k (.it id) (h.new id (.iter len val 0)) | _ => no) no = bi (isStr P t) (match ρ' x with | .s len val => k (.it id) (h.new id (.iter len val 0)) | _ => no) no
  rw [hρ x (by simp [Op.operands])]
 | next x s =>
  show bi s (nextN no h (ρ x) k) no = bi s (nextN no h (ρ' x) k) no
  rw [hρ x (by simp [Op.operands])]
 | call c =>
  have ha : ∀ x ∈ c.args.toList, ρ x = ρ' x := fun x hx => hρ x (by simp only [Op.operands, Call.operands, Array.toList_append]; exact List.mem_append_right _ hx)
  show evCall P c no call ρ h id k = evCall P c no call ρ' h id k
  unfold evCall
  cases hc : c.callee with
  | value f =>
   show callFn no (ρ f) (lmap ρ c.args.toList) call h k = callFn no (ρ' f) (lmap ρ' c.args.toList) call h k
   rw [lmap_congr ha, hρ f (by simp only [Op.operands, Call.operands, hc, Array.toList_append]; simp)]
  | invoke r n => rfl
  | builtin b =>
   generalize hl : c.args.toList = l at ha
   cases b <;> first | rfl | skip
   ·show evAppend P l _ no call ρ h id k = evAppend P l _ no call ρ' h id k
    unfold evAppend
    split
    ·rename_i x y
     rw [ha x (by simp), ha y (by simp)]
    ·rfl
   ·show evCap P l _ no call ρ h id k = evCap P l _ no call ρ' h id k
    unfold evCap
    split
    ·rename_i x
     rw [ha x (by simp)]
    ·rfl
   ·show evClear P l _ no call ρ h id k = evClear P l _ no call ρ' h id k
    unfold evClear
    split
    ·rename_i x
     rw [ha x (by simp)]
    ·rfl
   ·show evCopy P l _ no call ρ h id k = evCopy P l _ no call ρ' h id k
    unfold evCopy
    split
    ·rename_i x y
     rw [ha x (by simp), ha y (by simp)]
    ·rfl
   ·show evLen P l _ no call ρ h id k = evLen P l _ no call ρ' h id k
    unfold evLen
    split
    ·rename_i x
     rw [ha x (by simp)]
    ·rfl
   ·show evMinMax true l no call ρ h id k = evMinMax true l no call ρ' h id k
    unfold evMinMax
    split
    ·rename_i x y
     rw [ha x (by simp), ha y (by simp)]
    ·rfl
   ·show evMinMax false l no call ρ h id k = evMinMax false l no call ρ' h id k
    unfold evMinMax
    split
    ·rename_i x y
     rw [ha x (by simp), ha y (by simp)]
    ·rfl
 | _ => rfl
theorem effV_congr [Env] {op : Op} {g : Nat → Blk} {id : Nat} (hρ : ∀ x ∈ op.operands.toList, ρ x = ρ' x) : effV P op ρ g id = effV P op ρ' g id := by
 have quiet : quietV P op ρ = quietV P op ρ' := table_congr none hρ _ _ _ _
 cases op with
 | box t x =>
  show bi (isUn (ρ x)) none (some (⟨_, _, some (.cells (llen (ρ x).cells) [(ρ x).cells])⟩ : Eff)) = bi (isUn (ρ' x)) none (some ⟨_, _, some (.cells (llen (ρ' x).cells) [(ρ' x).cells])⟩)
  rw [hρ x (by simp [Op.operands])]
 | buildSlice t n ps =>
  show on none (slOf P t) _ = on none (slOf P t) _
  congr 1
  funext q
  rw [fillE_congr none q.2.1 n _ (fun p hp => hρ p.2 (by simp only [Op.operands]; exact List.mem_map.2 ⟨p, hp, rfl⟩))]
 | makeSlice t l c =>
  show on none (slOf P t) (fun q => on none (natOf (ρ l)) fun n => on none (natOf (ρ c)) fun m => _) = on none (slOf P t) (fun q => on none (natOf (ρ' l)) fun n => on none (natOf (ρ' c)) fun m => _)
  rw [hρ l (by simp [Op.operands]), hρ c (by simp [Op.operands])]
 | load t x => show loadV P g t (ρ x) = loadV P g t (ρ' x); rw [hρ x (by simp [Op.operands])]
 | store t x y => show storeV P g t (ρ x) (ρ y) = storeV P g t (ρ' x) (ρ' y); rw [hρ x (by simp [Op.operands]), hρ y (by simp [Op.operands])]
 | call c =>
  have ha : ∀ x ∈ c.args.toList, ρ x = ρ' x := fun x hx => hρ x (by simp only [Op.operands, Call.operands, Array.toList_append]; exact List.mem_append_right _ hx)
  show (match c.callee with | .builtin .append => callV P g id ρ c.args.toList c.argTypes.toList | _ => quietV P (.call c) ρ) = (match c.callee with | .builtin .append => callV P g id ρ' c.args.toList c.argTypes.toList | _ => quietV P (.call c) ρ')
  rw [quiet]
  split
  ·unfold callV
   generalize c.args.toList = l at ha
   split
   ·rename_i x y
    rw [ha x (by simp), ha y (by simp)]
   ·rfl
  ·rfl
 | _ => first | exact quiet | rfl
end
end Go.Zev

/-
  Drawn regions: one step, and two that may change places.
-/
set_option linter.unusedSimpArgs false
set_option linter.unusedVariables false
namespace Go.Zev
open Go
abbrev C0 := FuncId → List AV → Heap → Option (AV × Heap)
noncomputable def callOf (c0 : C0) {α : Type} (no : α) : Call' α := fun f args h k => on no (c0 f args h) fun p => k p.1 p.2
section
variable {P : Program} {c0 : C0} {nv : Nat} {ops : Array Oper} {Dp : List Nat}
noncomputable def putT (nv : Nat) (d : Option Nat) (v : AV) (t : Tm) : Tm := match d with | none => t | some d => bi (Nat.blt d nv) (Tm.set t d v) t
noncomputable def putL (nv : Nat) (d : Option Nat) (v : AV) (l : Loc) : Loc := match d with | none => l | some d => bi (Nat.blt d nv) l (lput l d v)
theorem putK_eq {α : Type} (k : K α) (d : Option Nat) (v : AV) (t : Tm) (l : Loc) (h : Heap) : putK nv k d v t l h = k (putT nv d v t) (putL nv d v l) h := by
 cases d with
 | none => rfl
 | some d =>
  show bi (Nat.blt d nv) (k (Tm.set t d v) l h) (k t (lput l d v) h) = k (bi (Nat.blt d nv) (Tm.set t d v) t) (bi (Nat.blt d nv) l (lput l d v)) h
  cases Nat.blt d nv <;> rfl
noncomputable def gd0 (ops : Array Oper) (nv : Nat) (t : Tm) (l : Loc) (o : Oper) : Option Bool := wantedK none ops nv t l o (some true) (some false)
noncomputable def chk (ops : Array Oper) (nv : Nat) (Dp : List Nat) (t : Tm) (l : Loc) (o : Oper) : Bool := if kindOf o.op = 2 then lall (rootOK ops nv Dp t l) (readSlots o.op) else true
noncomputable def gd (ops : Array Oper) (nv : Nat) (Dp : List Nat) (t : Tm) (l : Loc) (o : Oper) : Option Bool := bi (chk ops nv Dp t l o) (gd0 ops nv t l o) none
theorem gd_chk {t : Tm} {l : Loc} {o : Oper} {q : Bool} (h : gd ops nv Dp t l o = some q) : chk ops nv Dp t l o = true := by
 unfold gd at h
 cases hc : chk ops nv Dp t l o with
 | true => rfl
 | false => rw [hc] at h; cases h
noncomputable def pickG {α : Type} (no : α) (q : Option Bool) (yes skip : α) : α := match q with | none => no | some true => yes | some false => skip
theorem wantedK_eq [Env] {α : Type} (no : α) (t : Tm) (l : Loc) (o : Oper) (yes skip : α) (hc : chk ops nv Dp t l o = true) : wantedK no ops nv t l o yes skip = pickG no (gd ops nv Dp t l o) yes skip := by
 unfold gd
 rw [hc, bi_true]
 exact wantedK_hom (fun q => pickG no q yes skip) none ops nv t l o (some true) (some false)
noncomputable def view (b : Nat) (ids : List Nat) (h : Heap) : Nat → Blk := fun k => if Hid ids k then .none else (h.look b).get k
theorem view_nil (b : Nat) (h : Heap) : view b [] h = (h.look b).get := by funext k; simp [view, Hid]
theorem get_hide [Env] (b : Nat) (ids : List Nat) (h : Heap) : (hide ids (h.look b)).get = view b ids h := by
 funext k
 have hw := win_hide ids (h.look b)
 have hs : (hide ids (h.look b)).see k = (h.look b).see k := by unfold Heap.see; rw [hw.2.1, hw.2.2.1, hw.2.2.2]
 unfold view
 rw [Heap.get_eq, Heap.get_eq, hs, raw_hide]
 split <;> split <;> rfl
noncomputable def effR (P : Program) (op : Op) (ρ : Operand → AV) (b id : Nat) (ids : List Nat) (h : Heap) : Option (AV × Heap) :=
 match effV P op ρ (view b ids h) id with | some e => some (e.v, (appE e id h).look 0) | none => none
noncomputable def callR (P : Program) (c0 : C0) (op : Op) (ρ : Operand → AV) (ids : List Nat) (h : Heap) : Option (AV × Heap) := table P op none (callD none (callOf c0 none) ids) ρ h 0 fun v h => some (v, h)
noncomputable def runR (P : Program) (c0 : C0) (op : Op) (ρ : Operand → AV) (b id : Nat) (ids : List Nat) (h : Heap) : Option (AV × Heap) :=
 if kindOf op = 4 then callR P c0 op ρ ids h else if kindOf op = 3 then (if Hid ids id then none else effR P op ρ b id ids h) else if kindOf op = 2 then effR P op ρ b id ids h else effR P op ρ b id [] h
noncomputable def rawR (P : Program) (c0 : C0) (nv : Nat) (Dp : List Nat) (ops : Array Oper) (o : Oper) (b id : Nat) (ids : List Nat) (t : Tm) (l : Loc) (h : Heap) : Option (AV × Heap) :=
 pickG none (gd ops nv Dp t l o) (runR P c0 o.op (opnd nv t l) b id ids h) (some (.tup [], h.look 0))
theorem appE_look [Env] (e : Eff) (id b : Nat) (h : Heap) (hid : id < h.next) : (appE e id (h.look b)).look 0 = (appE e id h).look 0 := by
 have h1 := win_appE e id h hid
 have h2 := win_appE e id (h.look b) (by rw [Heap.next_look]; exact hid)
 refine Heap.eq ?_ ?_ ?_ (by simp) fun k => ?_
 ·rw [Heap.next_look, Heap.next_look, h1.1, h2.1, Heap.next_look]
 ·rw [Heap.lim_look, Heap.lim_look, h1.2.1, h2.2.1, Heap.lim_look]
 ·rw [Heap.top_look, Heap.top_look, h1.2.2.1, h2.2.2.1, Heap.top_look]
 ·rw [Heap.raw_look, Heap.raw_look, raw_appE, raw_appE, Heap.raw_look]
theorem appE_back [Env] {op : Op} {ρ : Operand → AV} {e : Eff} {id b : Nat} {ids : List Nat} {h : Heap} (hid : id < h.next) (hids : e.nw ≠ none → ¬ Hid ids id) (ok : EffOK op ρ (view b ids h) e) :
  (back h ids (appE e id (hide ids (h.look b)))).look 0 = (appE e id h).look 0 := by
 have h0 := win_hide ids (h.look b)
 have h1 := win_appE e id h hid
 have h2 := win_appE e id (hide ids (h.look b)) (by rw [h0.1, Heap.next_look]; exact hid)
 have h3 := win_back h ids (appE e id (hide ids (h.look b)))
 have hkill : ∀ k c, e.kill = some (k, c) → ¬ Hid ids k := by
  intro k c hk hm
  have := (ok.kill k c hk).2.2
  unfold view at this
  rw [if_pos hm] at this
  exact this rfl
 refine Heap.eq ?_ ?_ ?_ (by simp) fun k => ?_
 ·rw [Heap.next_look, Heap.next_look, h3.1, h2.1, h0.1, h1.1, Heap.next_look]
 ·rw [Heap.lim_look, Heap.lim_look, h3.2.1, h2.2.1, h0.2.1, h1.2.1, Heap.lim_look]
 ·rw [Heap.top_look, Heap.top_look, h3.2.2.1, h2.2.2.1, h0.2.2.1, h1.2.2.1, Heap.top_look]
 ·rw [Heap.raw_look, Heap.raw_look, raw_back, raw_appE, raw_appE, raw_hide, Heap.raw_look]
  by_cases hm : Hid ids k
  ·rw [if_pos hm]
   have hnk : ∀ c, e.kill ≠ some (k, c) := fun c e => hkill k c e hm
   cases hnw : e.nw with
   | none => dsimp only; rw [killR_ne _ hnk]
   | some x =>
    have hne : k ≠ id := fun e => hids (by rw [hnw]; simp) (e ▸ hm)
    dsimp only; rw [if_neg (fun x => hne x.1), killR_ne _ hnk]
  ·rw [if_neg hm, if_neg hm]
theorem lany_mem0 {x : Nat} {ids : List Nat} : lany (Nat.beq x) ids = true ↔ x ∈ ids := by
 rw [lany_eq, List.any_eq_true]
 constructor
 ·rintro ⟨y, h1, h2⟩; rw [beq_iff.1 h2]; exact h1
 ·intro h; exact ⟨x, h, beq_iff.2 rfl⟩
theorem lany_mem [Env] {x : Nat} {ids : List Nat} : (lany (Nat.beq x) ids || lany (Nat.beq far) ids) = true ↔ Hid ids x := by
 rw [Bool.or_eq_true, lany_mem0, lany_mem0]
theorem stepI_eq [Env] {α : Type} (no : α) {base j b : Nat} {o : Oper} (hk : kindOf o.op < 5) (ids : List Nat) (k : K α) (t : Tm) (l : Loc) (h : Heap) (hid : base + j < h.next) (hm : h.mask = 0) (h3 : kindOf o.op = 3 → ¬ Hid ids (base + j)) :
  stepI P no (callOf c0 no) nv Dp ops base j b o ids k t l h = on no (rawR P c0 nv Dp ops o b (base + j) ids t l h) fun p => k (putT nv o.dst p.1 t) (putL nv o.dst p.1 l) p.2 := by
 have h0 : h.look 0 = h := Heap.eq (by simp) (by simp) (by simp) (by simp [hm]) (fun k => by simp)
 unfold stepI rawR
 split
 ·rename_i h4
  unfold opStep
  rw [wantedK_eq _ _ _ _ _ _ (if_neg (by omega)), putK_eq]
  cases gd ops nv Dp t l o with
  | none => rfl
  | some q =>
   cases q
   ·show k _ _ h = k _ _ (h.look 0); rw [h0]
   ·show table P o.op no _ _ h _ _ = on no (runR P c0 o.op (opnd nv t l) b (base + j) ids h) _
    unfold runR
    rw [if_pos h4]
    have hc : CallHom (fun q : Option (AV × Heap) => on no q fun p => k (putT nv o.dst p.1 t) (putL nv o.dst p.1 l) p.2) (callD no (callOf c0 no) ids) (callD none (callOf c0 none) ids) := by
     refine callD_hom _ none ?_ ids
     intro f args h k'
     unfold callOf
     exact on_hom (fun q : Option (AV × Heap) => on no q fun p => k (putT nv o.dst p.1 t) (putL nv o.dst p.1 l) p.2) none _ _
    have := table_hom (fun q : Option (AV × Heap) => on no q fun p => k (putT nv o.dst p.1 t) (putL nv o.dst p.1 l) p.2) none P hc o.op (opnd nv t l) h (base + j) fun v h => some (v, h)
    simp only [putK_eq]
    refine this.trans ?_
    unfold callR
    have hid0 : ∀ id : Nat, table P o.op none (callD none (callOf c0 none) ids) (opnd nv t l) h id (fun v h => some (v, h)) = table P o.op none (callD none (callOf c0 none) ids) (opnd nv t l) h 0 (fun v h => some (v, h)) := by
     intro id
     cases hop : o.op with
     | call c =>
      rw [hop] at h4
      show evCall P c none _ _ h id _ = evCall P c none _ _ h 0 _
      have hkk : kindOf (.call c) = (match c.callee with
       | .value _ => 4
       | .builtin .append => match c.args.toList with | [.tmp _, .tmp _] => 3 | _ => 5
       | .builtin .len | .builtin .cap | .builtin .min | .builtin .max => 0
       | _ => 5) := rfl
      rw [hkk] at h4
      unfold evCall
      cases hc : c.callee with
      | value f => rfl
      | invoke r n => rfl
      | builtin b =>
       rw [hc] at h4
       cases b <;> first | (exact absurd (show (5 : Nat) = 4 from h4) (by decide)) | (exact absurd (show (0 : Nat) = 4 from h4) (by decide)) | skip
       exfalso
       have h41 : (match c.args.toList with | [.tmp _, .tmp _] => 3 | _ => 5) = 4 := h4
       split at h41 <;> exact absurd h41 (by decide)
     | load t x => rw [hop] at h4; cases x <;> first | exact absurd (show (2 : Nat) = 4 from h4) (by decide) | exact absurd (show (5 : Nat) = 4 from h4) (by decide)
     | store t x y => rw [hop] at h4; cases x <;> first | exact absurd (show (2 : Nat) = 4 from h4) (by decide) | exact absurd (show (5 : Nat) = 4 from h4) (by decide)
     | _ => rw [hop] at h4; first | exact absurd (show (0 : Nat) = 4 from h4) (by decide) | exact absurd (show (1 : Nat) = 4 from h4) (by decide) | exact absurd (show (5 : Nat) = 4 from h4) (by decide)
    rw [hid0]
 ·rename_i h3'
  have hn := h3 h3'
  have hl : (lany (Nat.beq (base + j)) ids || lany (Nat.beq far) ids) = false := by
   cases hb : (lany (Nat.beq (base + j)) ids || lany (Nat.beq far) ids) with
   | false => rfl
   | true => exact absurd (lany_mem.1 hb) hn
  rw [hl, bi_false]
  unfold opStep
  rw [wantedK_eq _ _ _ _ _ _ (if_neg (by omega)), putK_eq]
  cases gd ops nv Dp t l o with
  | none => rfl
  | some q =>
   cases q
   ·show k _ _ ((back h ids (hide ids (h.look b))).look 0) = k _ _ (h.look 0)
    congr 1
    have e1 := win_hide ids (h.look b)
    have e2 := win_back h ids (hide ids (h.look b))
    refine Heap.eq ?_ ?_ ?_ (by simp) fun k => ?_
    ·rw [Heap.next_look, e2.1, e1.1]; simp
    ·rw [Heap.lim_look, e2.2.1, e1.2.1]; simp
    ·rw [Heap.top_look, e2.2.2.1, e1.2.2.1]; simp
    ·rw [Heap.raw_look, raw_back, raw_hide]
     by_cases hm : Hid ids k
     ·rw [if_pos hm, Heap.raw_look]
     ·rw [if_neg hm, if_neg hm]; simp
   ·show table P o.op no _ _ (hide ids (h.look b)) _ _ = on no (runR P c0 o.op (opnd nv t l) b (base + j) ids h) _
    unfold runR
    rw [if_neg (by omega), if_pos h3', if_neg hn, table_eff no (by omega), get_hide]
    unfold effR
    cases he : effV P o.op (opnd nv t l) (view b ids h) (base + j) with
    | none => rfl
    | some e =>
     show putK nv _ o.dst e.v t l _ = k _ _ ((appE e (base + j) h).look 0)
     rw [putK_eq, appE_back hid (fun _ => hn) (effV_ok (by omega) he)]
 ·rename_i h2'
  have hce : chk ops nv Dp t l o = lall (rootOK ops nv Dp t l) (readSlots o.op) := if_pos h2'
  cases hck : lall (rootOK ops nv Dp t l) (readSlots o.op) with
  | false =>
   rw [bi_false]
   unfold gd
   rw [hce, hck]
   rfl
  | true =>
  rw [bi_true]
  unfold opStep
  rw [wantedK_eq _ _ _ _ _ _ (hce.trans hck), putK_eq]
  cases gd ops nv Dp t l o with
  | none => rfl
  | some q =>
   cases q
   ·show k _ _ ((back h ids (hide ids (h.look b))).look 0) = k _ _ (h.look 0)
    congr 1
    have e1 := win_hide ids (h.look b)
    have e2 := win_back h ids (hide ids (h.look b))
    refine Heap.eq ?_ ?_ ?_ (by simp) fun k => ?_
    ·rw [Heap.next_look, e2.1, e1.1]; simp
    ·rw [Heap.lim_look, e2.2.1, e1.2.1]; simp
    ·rw [Heap.top_look, e2.2.2.1, e1.2.2.1]; simp
    ·rw [Heap.raw_look, raw_back, raw_hide]
     by_cases hm : Hid ids k
     ·rw [if_pos hm, Heap.raw_look]
     ·rw [if_neg hm, if_neg hm]; simp
   ·show table P o.op no _ _ (hide ids (h.look b)) _ _ = on no (runR P c0 o.op (opnd nv t l) b (base + j) ids h) _
    unfold runR
    rw [if_neg (by omega), if_neg (by omega), if_pos h2', table_eff no (by omega), get_hide]
    unfold effR
    cases he : effV P o.op (opnd nv t l) (view b ids h) (base + j) with
    | none => rfl
    | some e =>
     show putK nv _ o.dst e.v t l _ = k _ _ ((appE e (base + j) h).look 0)
     have ok := effV_ok (by omega) he
     rw [putK_eq, appE_back hid (fun hn => (by rcases ok.nw hn with h | h <;> omega)) ok]
 ·rename_i h4 h3' h2'
  have hk3 : kindOf o.op < 2 := by
   have a1 : kindOf o.op ≠ 4 := h4
   have a2 : kindOf o.op ≠ 3 := h3'
   have a3 : kindOf o.op ≠ 2 := h2'
   omega
  unfold opStep
  rw [wantedK_eq _ _ _ _ _ _ (if_neg (by omega)), putK_eq]
  cases gd ops nv Dp t l o with
  | none => rfl
  | some q =>
   cases q
   ·show k _ _ ((h.look b).look 0) = k _ _ (h.look 0)
    congr 1
   ·show table P o.op no _ _ (h.look b) _ _ = on no (runR P c0 o.op (opnd nv t l) b (base + j) ids h) _
    unfold runR
    rw [if_neg (by omega), if_neg (by omega), if_neg (by omega), table_eff no (by omega)]
    unfold effR
    rw [view_nil]
    cases he : effV P o.op (opnd nv t l) (h.look b).get (base + j) with
    | none => rfl
    | some e =>
     show putK nv _ o.dst e.v t l _ = k _ _ ((appE e (base + j) h).look 0)
     rw [putK_eq, appE_look _ _ _ _ hid]
end
end Go.Zev

/-
  Drawn regions: two operations that may change places.
-/
set_option linter.unusedSimpArgs false
set_option linter.unusedVariables false
namespace Go.Zev
open Go
structure Win (base n : Nat) (h : Heap) : Prop where
 lim : h.lim = base
 top : h.top = base + n
 mask : h.mask = 0
 next : base + n ≤ h.next
def seeW (base n b k : Nat) : Prop := k < base ∨ base + n ≤ k ∨ Nat.testBit b (k - base) = true
section
variable {P : Program} {c0 : C0} {base n i j bi' bj : Nat} {h h' h1 h2 : Heap} {ox oy : Op} {ρx ρy : Operand → AV} {idsx idsy : List Nat} {vx vy : AV}
theorem view_raw (hw : Win base n h) (b : Nat) (ids : List Nat) (k : Nat) : (¬ Hid ids k ∧ seeW base n b k → view b ids h k = h.raw k) ∧ (¬ (¬ Hid ids k ∧ seeW base n b k) → view b ids h k = .none) := by
 unfold view
 have hs : (h.look b).see k = true ↔ seeW base n b k := by
  rw [see_eq, Heap.lim_look, Heap.top_look, Heap.mask_look, hw.lim, hw.top]; rfl
 constructor
 ·rintro ⟨h1, h2⟩
  rw [if_neg h1, Heap.get_eq, if_pos (hs.2 h2), Heap.raw_look]
 ·intro hn
  by_cases hm : Hid ids k
  ·rw [if_pos hm]
  ·rw [if_neg hm, Heap.get_eq, if_neg (fun e => hn ⟨hm, hs.1 e⟩)]
theorem view_same [Env] (hw : Win base n h) (hw' : Win base n h') {b : Nat} {ids : List Nat} {k : Nat} (hr : seeW base n b k → ¬ Hid ids k → h.raw k ≠ .none → h'.raw k = h.raw k) (hv : view b ids h k ≠ .none) : view b ids h' k = view b ids h k := by
 by_cases hc : ¬ Hid ids k ∧ seeW base n b k
 ·rw [(view_raw hw b ids k).1 hc] at hv ⊢
  rw [(view_raw hw' b ids k).1 hc]
  exact hr hc.2 hc.1 hv
 ·exact absurd ((view_raw hw b ids k).2 hc) hv
theorem seen_not {m b : Nat} (hm : m < n) (hb : Nat.testBit b m = false) : ¬ seeW base n b (base + m) := by
 rintro (h | h | h)
 ·omega
 ·omega
 ·rw [Nat.add_sub_cancel_left, hb] at h; cases h
theorem win_eff [Env] (hw : Win base n h) {e : Eff} {m : Nat} (hm : m < n) : Win base n ((appE e (base + m) h).look 0) := by
 have := win_appE e (base + m) h (by have := hw.next; omega)
 exact ⟨by rw [Heap.lim_look, this.2.1, hw.lim], by rw [Heap.top_look, this.2.2.1, hw.top], by simp, by rw [Heap.next_look, this.1]; exact hw.next⟩
theorem effR_some {op : Op} {ρ : Operand → AV} {b id : Nat} {ids : List Nat} {v : AV} (he : effR P op ρ b id ids h = some (v, h')) : ∃ e, effV P op ρ (view b ids h) id = some e ∧ v = e.v ∧ h' = (appE e id h).look 0 := by
 unfold effR at he
 split at he
 ·rename_i e hq; injection he with he; injection he with e1 e2; exact ⟨e, hq, e1.symm, e2.symm⟩
 ·cases he
theorem effR_of {op : Op} {ρ : Operand → AV} {b id : Nat} {ids : List Nat} {e : Eff} (he : effV P op ρ (view b ids h) id = some e) : effR P op ρ b id ids h = some (e.v, (appE e id h).look 0) := by
 unfold effR
 rw [he]
theorem readSlots_kind {op : Op} {k : Nat} (hk : k ∈ readSlots op) : kindOf op = 2 ∨ kindOf op = 3 := by
 cases op <;> first | (simp [readSlots] at hk; done) | skip
 ·rename_i t x
  cases x <;> first | (simp [readSlots] at hk; done) | exact .inl rfl
 ·rename_i t x y
  cases x <;> first | (simp [readSlots] at hk; done) | exact .inl rfl
 ·rename_i c
  have hk' : k ∈ (match c.args.toList with | [.tmp a, .tmp b] => bi (Nat.beq (kindOf (.call c)) 3) [a, b] [] | _ => []) := hk
  split at hk'
  ·cases hb : Nat.beq (kindOf (.call c)) 3 with
   | true => exact .inr (beq_iff.1 hb)
   | false => rw [hb] at hk'; cases hk'
  ·cases hk'
theorem beq_ne {a b : Nat} (h : a ≠ b) : Nat.beq a b = false := by cases hb : Nat.beq a b; rfl; exact absurd (beq_iff.1 hb) h
theorem killSlots_read {o : Op} {k : Nat} (hk : k ∈ killSlots o) : kindOf o = 3 ∧ k ∈ readSlots o := by
 unfold killSlots at hk
 cases hb : Nat.beq (kindOf o) 3 with
 | false => rw [hb] at hk; cases hk
 | true =>
  rw [hb, bi_true] at hk
  refine ⟨beq_iff.1 hb, ?_⟩
  cases hr : readSlots o with
  | nil => rw [hr] at hk; cases hk
  | cons a r => rw [hr] at hk; simp at hk; subst hk; exact List.mem_cons_self ..
theorem cSlots_mem [Env] {ox oy : Op} {k : Nat} (hk : k ∈ cSlots ox oy) : k ∈ readSlots ox ∧ (kindOf oy = 3 ∨ kindOf oy = 2) := by
 unfold cSlots at hk
 cases h3 : Nat.beq (kindOf oy) 3 with
 | true => rw [h3, bi_true] at hk; exact ⟨hk, .inl (beq_iff.1 h3)⟩
 | false =>
  rw [h3, bi_false] at hk
  cases h2 : Nat.beq (kindOf oy) 2 with
  | false => rw [h2, bi_false] at hk; cases hk
  | true =>
   rw [h2, bi_true] at hk
   refine ⟨?_, .inr (beq_iff.1 h2)⟩
   cases hw : (writes oy || writes ox) with
   | true => rw [hw, bi_true] at hk; exact hk
   | false => rw [hw, bi_false] at hk; exact (killSlots_read hk).2
theorem cSlots_all [Env] {ox oy : Op} (h : kindOf oy = 3 ∨ (kindOf oy = 2 ∧ (writes oy = true ∨ writes ox = true))) : cSlots ox oy = readSlots ox := by
 unfold cSlots
 rcases h with h | ⟨h, hw⟩
 ·rw [beq_iff.2 h, bi_true]
 ·have hw : (writes oy || writes ox) = true := by rw [Bool.or_eq_true]; exact hw
  rw [beq_ne (by omega), bi_false, beq_iff.2 h, bi_true, hw, bi_true]
theorem cSlots_kill [Env] {ox oy : Op} (hy : kindOf oy = 3 ∨ kindOf oy = 2) {k : Nat} (hk : k ∈ killSlots ox) : k ∈ cSlots ox oy := by
 unfold cSlots
 rcases hy with h | h
 ·rw [beq_iff.2 h, bi_true]; exact (killSlots_read hk).2
 ·rw [beq_ne (by omega), bi_false, beq_iff.2 h, bi_true]
  cases hw : (writes oy || writes ox) with
  | true => rw [bi_true]; exact (killSlots_read hk).2
  | false => rw [bi_false]; exact hk
theorem killR_comm {kx ky : Option (Nat × Blk)} (h : ∀ b c c', kx = some (b, c) → ky = some (b, c') → False) (k : Nat) (r : Blk) : killR ky k (killR kx k r) = killR kx k (killR ky k r) := by
 cases kx with
 | none => rfl
 | some x =>
  cases ky with
  | none => rfl
  | some y =>
   unfold killR
   dsimp only
   by_cases h1 : k = x.1 ∧ x.1 < cap
   ·by_cases h2 : k = y.1 ∧ y.1 < cap
    ·exact (h k x.2 y.2 (by rw [h1.1]) (by rw [h2.1])).elim
    ·simp only [if_neg h2, if_pos h1]
   ·simp only [if_neg h1]
theorem swap_eff [Env] (hx : kindOf ox < 4) (hy : kindOf oy < 4) (hw : Win base n h) (hi : i < n) (hj : j < n) (hij : i ≠ j) (hbi : Nat.testBit bi' j = false) (hbj : Nat.testBit bj i = false)
  (cov : ∀ k ∈ cSlots ox oy, ∀ b, (ρx (.tmp k)).blk = some b → Hid idsy b)
  (e1 : effR P ox ρx bi' (base + i) idsx h = some (vx, h1)) (e2 : effR P oy ρy bj (base + j) idsy h1 = some (vy, h2)) :
  ∃ h1', effR P oy ρy bj (base + j) idsy h = some (vy, h1') ∧ effR P ox ρx bi' (base + i) idsx h1' = some (vx, h2) := by
 obtain ⟨ex, hex, rfl, rfl⟩ := effR_some e1
 obtain ⟨ey, hey, rfl, rfl⟩ := effR_some e2
 have okx := effV_ok hx hex
 have oky := effV_ok hy hey
 have hw1 : Win base n ((appE ex (base + i) h).look 0) := win_eff hw hi
 have hw1' : Win base n ((appE ey (base + j) h).look 0) := win_eff hw hj
 have hkx : ∀ c, ex.kill ≠ some (base + j, c) := fun c e => by
  have := (okx.kill _ _ e).2.2
  exact this ((view_raw hw bi' idsx (base + j)).2 fun q => seen_not hj hbi q.2)
 have hky : ∀ c, ey.kill ≠ some (base + i, c) := fun c e => by
  have := (oky.kill _ _ e).2.2
  exact this ((view_raw hw1 bj idsy (base + i)).2 fun q => seen_not hi hbj q.2)
 have hyc : ∀ b c, ey.kill = some (b, c) → cSlots ox oy = readSlots ox ∧ ¬ Hid idsy b := fun b c e => by
  have h3 := oky.kill b c e
  refine ⟨cSlots_all ?_, fun hm => h3.2.2 ((view_raw hw1 bj idsy b).2 fun q => q.1 hm)⟩
  rcases h3.1 with q | q
  ·exact .inl q
  ·exact .inr ⟨q.1, .inl q.2⟩
 have hkk : ∀ b c c', ex.kill = some (b, c) → ey.kill = some (b, c') → False := fun b c c' q1 q2 => by
  obtain ⟨hc, hn⟩ := hyc b c' q2
  obtain ⟨k, hk, _, hb⟩ := (okx.kill b c q1).2.1
  exact hn (cov k (by rw [hc]; exact hk) b hb)
 have m1 : effV P oy ρy (view bj idsy h) (base + j) = some ey := by
  refine effV_mono hy (fun k hk b hb hv => ?_) hey
  rw [view_same hw1 hw (fun hs hn hr => ?_) hv]
  have hni : ¬ (b = base + i ∧ base + i < cap) := fun q => seen_not hi hbj (by rw [q.1] at hs; exact hs)
  have hnk : ∀ c, ex.kill ≠ some (b, c) := fun c e => by
   have h3 := okx.kill b c e
   obtain ⟨k', hk', hkk', hb'⟩ := h3.2.1
   refine hn (cov k' ?_ b hb')
   rcases h3.1 with q3 | ⟨q2, w2⟩
   ·exact cSlots_kill (by rcases readSlots_kind hk with q | q; exact .inr q; exact .inl q) (hkk' q3)
   ·rw [cSlots_all]
    ·exact hk'
    ·rcases readSlots_kind hk with q | q
     ·exact .inr ⟨q, .inr w2⟩
     ·exact .inl q
  rw [Heap.raw_look, raw_appE]
  cases ex.nw with
  | none => exact (killR_ne _ hnk).symm
  | some x => dsimp only; rw [if_neg hni, killR_ne _ hnk]
 have m2 : effV P ox ρx (view bi' idsx ((appE ey (base + j) h).look 0)) (base + i) = some ex := by
  refine effV_mono hx (fun k hk b hb hv => ?_) hex
  rw [view_same hw hw1' (fun hs hn hr => ?_) hv]
  rw [Heap.raw_look, raw_appE]
  have hnk : ∀ c, ey.kill ≠ some (b, c) := fun c e => by
   obtain ⟨hc, hm⟩ := hyc b c e
   exact hm (cov k (by rw [hc]; exact hk) b hb)
  cases ey.nw with
  | none => exact killR_ne _ hnk
  | some x =>
   dsimp only
   rw [if_neg (fun q => by rw [q.1] at hs; exact seen_not hj hbi hs), killR_ne _ hnk]
 refine ⟨_, effR_of m1, ?_⟩
 rw [effR_of m2]
 congr 1
 congr 1
 have hn := hw.next
 have a1 := win_appE ex (base + i) h (by omega)
 have a2 := win_appE ey (base + j) ((appE ex (base + i) h).look 0) (by rw [Heap.next_look, a1.1]; omega)
 have b1 := win_appE ey (base + j) h (by omega)
 have b2 := win_appE ex (base + i) ((appE ey (base + j) h).look 0) (by rw [Heap.next_look, b1.1]; omega)
 refine Heap.eq ?_ ?_ ?_ (by simp) fun k => ?_
 ·simp only [Heap.next_look, a1, a2, b1, b2]
 ·simp only [Heap.lim_look, a1, a2, b1, b2]
 ·simp only [Heap.top_look, a1, a2, b1, b2]
 ·simp only [Heap.raw_look, raw_appE]
  have hne : base + i ≠ base + j := by omega
  have hcm := killR_comm hkk k
  cases ex.nw with
  | none =>
   cases ey.nw with
   | none => exact (hcm _).symm
   | some y =>
    dsimp only
    by_cases q0 : k = base + j ∧ base + j < cap
    ·rw [if_pos q0, if_pos q0, q0.1, killR_ne _ hkx]
    ·rw [if_neg q0, if_neg q0, hcm]
  | some x =>
   cases ey.nw with
   | none =>
    dsimp only
    by_cases q0 : k = base + i ∧ base + i < cap
    ·rw [if_pos q0, if_pos q0, q0.1, killR_ne _ hky]
    ·rw [if_neg q0, if_neg q0, hcm]
   | some y =>
    dsimp only
    by_cases q0 : k = base + i ∧ base + i < cap
    ·have q1 : ¬ (k = base + j ∧ base + j < cap) := fun x => hne (q0.1.symm.trans x.1)
     rw [if_pos q0, if_pos q0, if_neg q1, q0.1, killR_ne _ hky]
    ·rw [if_neg q0, if_neg q0]
     by_cases q3 : k = base + j ∧ base + j < cap
     ·rw [if_pos q3, if_pos q3, q3.1, killR_ne _ hkx]
     ·rw [if_neg q3, if_neg q3, hcm]
noncomputable def argsD (ids : List Nat) (h : Heap) (args : List AV) : Option (List AV) := bi (lendsTo ids args) (lmapO (frz (hide0 ids h.shut) 200) args) (some args)
noncomputable def okD (ids : List Nat) (args : List AV) (v : AV) : Bool := bi (lendsTo ids args) (noBlk 20 v) true
theorem callD_args (call : Call' (Option (AV × Heap))) (ids : List Nat) (f : FuncId) (args : List AV) (h : Heap) (k : AV → Heap → Option (AV × Heap)) :
  callD none call ids f args h k = on none (argsD ids h args) fun fa => call f fa (hide ids h.shut) fun v h' => bi (Nat.ble h.next h'.next && okD ids args v) (k v ((back h ids h').win h.lim h.top 0)) none := by
 unfold callD argsD okD
 cases lendsTo ids args with
 | true => rfl
 | false =>
  show _ = call f args _ _
  simp only [bi_false, Bool.and_true]
theorem callR_eq [Env] (hk : kindOf ox = 4) (ρ : Operand → AV) : (∀ ids h, callR P c0 ox ρ ids h = none) ∨ ∃ q args, ∀ ids h, callR P c0 ox ρ ids h = on none (argsD ids h args) fun fa => on none (c0 q fa (hide ids h.shut)) fun p => bi (Nat.ble h.next p.2.next && okD ids args p.1) (some (p.1, (back h ids p.2).win h.lim h.top 0)) none := by
 cases ox with
 | call c =>
  have hkk : kindOf (.call c) = (match c.callee with
   | .value _ => 4
   | .builtin .append => match c.args.toList with | [.tmp _, .tmp _] => 3 | _ => 5
   | .builtin .len | .builtin .cap | .builtin .min | .builtin .max => 0
   | _ => 5) := rfl
  rw [hkk] at hk
  cases hc : c.callee with
  | value f =>
   have heq : ∀ ids h, callR P c0 (.call c) ρ ids h = callFn none (ρ f) (lmap ρ c.args.toList) (callD none (callOf c0 none) ids) h fun v h => some (v, h) := by
    intro ids h
    show evCall P c none _ ρ h 0 _ = _
    unfold evCall
    rw [hc]
    rfl
   by_cases hf : ∃ q a cp, ρ f = .fn (.func q) a cp
   ·obtain ⟨q, a, cp, hf⟩ := hf
    refine .inr ⟨q, lapp a (lapp (lmap ρ c.args.toList) cp), fun ids h => ?_⟩
    rw [heq, hf]
    exact (callD_args (callOf c0 none) ids q (lapp a (lapp (lmap ρ c.args.toList) cp)) h fun v h => some (v, h)).trans rfl
   ·refine .inl fun ids h => ?_
    rw [heq]
    unfold callFn
    split
    ·rename_i q a cp hfe; exact absurd ⟨q, a, cp, hfe⟩ hf
    ·rfl
  | invoke r m => rw [hc] at hk; exact absurd (show (5 : Nat) = 4 from hk) (by decide)
  | builtin b =>
   rw [hc] at hk
   cases b <;> first | (exact absurd (show (5 : Nat) = 4 from hk) (by decide)) | (exact absurd (show (0 : Nat) = 4 from hk) (by decide)) | skip
   exfalso
   have h41 : (match c.args.toList with | [.tmp _, .tmp _] => 3 | _ => 5) = 4 := hk
   split at h41 <;> exact absurd h41 (by decide)
 | load t x => cases x <;> first | exact absurd (show (2 : Nat) = 4 from hk) (by decide) | exact absurd (show (5 : Nat) = 4 from hk) (by decide)
 | store t x y => cases x <;> first | exact absurd (show (2 : Nat) = 4 from hk) (by decide) | exact absurd (show (5 : Nat) = 4 from hk) (by decide)
 | _ => first | exact absurd (show (0 : Nat) = 4 from hk) (by decide) | exact absurd (show (1 : Nat) = 4 from hk) (by decide) | exact absurd (show (5 : Nat) = 4 from hk) (by decide)
theorem win_call [Env] (hw : Win base n h) {hc : Heap} {ids : List Nat} (hn : h.next ≤ hc.next) : Win base n ((back h ids hc).win h.lim h.top 0) :=
 ⟨by rw [Heap.lim_win, hw.lim], by rw [Heap.top_win, hw.top], by simp, by rw [Heap.next_win, (win_back h ids hc).1]; have := hw.next; omega⟩
structure Beside (oy : Op) (ρy : Operand → AV) (id : Nat) (ids : List Nat) : Prop where
 num : kindOf oy = 1 → id ∈ ids
 read : ∀ k ∈ readSlots oy, ∀ b, (ρy (.tmp k)).blk = some b → Hid ids b
 write : writes oy = true → ∀ k ∈ readSlots oy, ∀ b, (ρy (.tmp k)).blk = some b → b ∈ ids
theorem beside_raw [Env] (hy : kindOf oy < 3) {id : Nat} {ids : List Nat} {g : Nat → Blk} {e : Eff} (c : Beside oy ρy id ids) (ok : EffOK oy ρy g e) (h : Heap) {k : Nat} (hk : k ∉ ids) : (appE e id h).raw k = h.raw k := by
 have hnk : ∀ x, e.kill ≠ some (k, x) := fun x hq => by
  have h3 := ok.kill k x hq
  rcases h3.1 with q | q
  ·omega
  ·obtain ⟨m, hm, _, hb⟩ := h3.2.1
   exact hk (c.write q.2 m hm k hb)
 rw [raw_appE]
 cases hq : e.nw with
 | none => exact killR_ne _ hnk
 | some x =>
  dsimp only
  have hid : id ∈ ids := by
   rcases ok.nw (by rw [hq]; simp) with q | q
   ·exact c.num q
   ·omega
  rw [if_neg (fun q => hk (by rw [q.1]; exact hid)), killR_ne _ hnk]
theorem beside_hide [Env] (hy : kindOf oy < 3) {id : Nat} {ids : List Nat} {g : Nat → Blk} {e : Eff} (c : Beside oy ρy id ids) (ok : EffOK oy ρy g e) (h : Heap) (hid : id < h.next) :
  hide ids ((appE e id h).look 0).shut = hide ids h.shut ∧ hide0 ids ((appE e id h).look 0).shut = hide0 ids h.shut := by
 have a1 := win_appE e id h hid
 constructor
 ·have w1 := win_hide ids ((appE e id h).look 0).shut
  have w2 := win_hide ids h.shut
  refine Heap.eq (by rw [w1.1, w2.1]; simp [a1]) (by rw [w1.2.1, w2.2.1]; simp) (by rw [w1.2.2.1, w2.2.2.1]; simp) (by rw [w1.2.2.2, w2.2.2.2]; simp) fun k => ?_
  rw [raw_hide, raw_hide]
  by_cases hm : Hid ids k
  ·rw [if_pos hm, if_pos hm]
  ·rw [if_neg hm, if_neg hm, Heap.raw_shut, Heap.raw_look, Heap.raw_shut]
   exact beside_raw hy c ok h fun e => hm (.inl e)
 ·have w1 := win_hide0 ids ((appE e id h).look 0).shut
  have w2 := win_hide0 ids h.shut
  refine Heap.eq (by rw [w1.1, w2.1]; simp [a1]) (by rw [w1.2.1, w2.2.1]; simp) (by rw [w1.2.2.1, w2.2.2.1]; simp) (by rw [w1.2.2.2, w2.2.2.2]; simp) fun k => ?_
  rw [raw_hide0, raw_hide0]
  by_cases hm : k ∈ ids
  ·rw [if_pos hm, if_pos hm]
  ·rw [if_neg hm, if_neg hm, Heap.raw_shut, Heap.raw_look, Heap.raw_shut]
   exact beside_raw hy c ok h hm
theorem beside_args [Env] (hy : kindOf oy < 3) {id : Nat} {ids : List Nat} {g : Nat → Blk} {e : Eff} (c : Beside oy ρy id ids) (ok : EffOK oy ρy g e) (h : Heap) (hid : id < h.next) (args : List AV) :
  argsD ids ((appE e id h).look 0) args = argsD ids h args := by
 unfold argsD
 rw [(beside_hide hy c ok h hid).2]
theorem beside_eq [Env] (hy : kindOf oy < 3) {id : Nat} {ids : List Nat} {g : Nat → Blk} {e : Eff} (c : Beside oy ρy id ids) (ok : EffOK oy ρy g e) (h hc : Heap) (hid : id < h.next) (hn : h.next ≤ hc.next) (hm : h.mask = 0) :
  (back ((appE e id h).look 0) ids hc).win ((appE e id h).look 0).lim ((appE e id h).look 0).top 0 = (appE e id ((back h ids hc).win h.lim h.top 0)).look 0 := by
 have a1 := win_appE e id h hid
 have hbk := win_back h ids hc
 have a2 := win_appE e id ((back h ids hc).win h.lim h.top 0) (by rw [Heap.next_win, hbk.1]; omega)
 have c1 := win_back ((appE e id h).look 0) ids hc
 refine Heap.eq ?_ ?_ ?_ (by simp) fun k => ?_
 ·simp [c1, a2, hbk]
 ·simp [a1, a2]
 ·simp [a1, a2]
 ·rw [Heap.raw_win, raw_back, Heap.raw_look, Heap.raw_look]
  by_cases hh : Hid ids k
  ·rw [if_pos hh, raw_appE, raw_appE, Heap.raw_win, raw_back, if_pos hh]
  ·rw [if_neg hh, beside_raw hy c ok _ (fun e => hh (.inl e)), Heap.raw_win, raw_back, if_neg hh]
theorem swap_call_l [Env] (hx : kindOf ox = 4) (hy : kindOf oy < 3) (hw : Win base n h) (hj : j < n) (cov : Beside oy ρy (base + j) idsx)
  (e1 : callR P c0 ox ρx idsx h = some (vx, h1)) (e2 : effR P oy ρy bj (base + j) idsy h1 = some (vy, h2)) :
  ∃ h1', effR P oy ρy bj (base + j) idsy h = some (vy, h1') ∧ callR P c0 ox ρx idsx h1' = some (vx, h2) := by
 rcases callR_eq (P := P) (c0 := c0) hx ρx with h0 | ⟨q, args, hcq⟩
 ·rw [h0] at e1; cases e1
 rw [hcq] at e1
 cases ha : argsD idsx h args with
 | none => rw [ha] at e1; cases e1
 | some fa =>
 rw [ha] at e1
 have e1 : on none (c0 q fa (hide idsx h.shut)) _ = some (vx, h1) := e1
 cases hc0 : c0 q fa (hide idsx h.shut) with
 | none => rw [hc0] at e1; cases e1
 | some p =>
  rw [hc0] at e1
  obtain ⟨hn0, e1⟩ := bi_some (c := Nat.ble h.next p.2.next && okD idsx args p.1) e1
  injection e1 with ea eb
  have hn1 := hn0
  rw [Bool.and_eq_true] at hn1
  have hn := ble_iff.1 hn1.1
  subst ea eb
  obtain ⟨ey, hey, rfl, rfl⟩ := effR_some e2
  have oky := effV_ok (by omega) hey
  have hw1 := win_call (ids := idsx) hw hn
  have hnx := hw.next
  have m1 : effV P oy ρy (view bj idsy h) (base + j) = some ey := by
   refine effV_mono (by omega) (fun k hk b hb hv => ?_) hey
   rw [view_same hw1 hw (fun hs hnm hr => ?_) hv]
   rw [Heap.raw_win, raw_back, if_pos (cov.read k hk b hb)]
  have a1 := win_appE ey (base + j) h (by omega)
  refine ⟨_, effR_of m1, ?_⟩
  rw [hcq, beside_args hy cov oky h (by omega), ha, (beside_hide hy cov oky h (by omega)).1]
  show on none (c0 q fa (hide idsx h.shut)) _ = _
  rw [hc0]
  show bi (Nat.ble ((appE ey (base + j) h).look 0).next p.2.next && okD idsx args p.1) (some (p.1, _)) none = _
  rw [Heap.next_look, a1.1, hn0, bi_true, beside_eq hy cov oky h p.2 (by omega) hn hw.mask]
theorem swap_call_r [Env] (hx : kindOf ox < 3) (hy : kindOf oy = 4) (hw : Win base n h) (hi : i < n) (cov : Beside ox ρx (base + i) idsy)
  (e1 : effR P ox ρx bi' (base + i) idsx h = some (vx, h1)) (e2 : callR P c0 oy ρy idsy h1 = some (vy, h2)) :
  ∃ h1', callR P c0 oy ρy idsy h = some (vy, h1') ∧ effR P ox ρx bi' (base + i) idsx h1' = some (vx, h2) := by
 rcases callR_eq (P := P) (c0 := c0) hy ρy with h0 | ⟨q, args, hcq⟩
 ·rw [h0] at e2; cases e2
 obtain ⟨ex, hex, rfl, rfl⟩ := effR_some e1
 have okx := effV_ok (by omega) hex
 have hnx := hw.next
 have a1 := win_appE ex (base + i) h (by omega)
 rw [hcq, beside_args hx cov okx h (by omega), (beside_hide hx cov okx h (by omega)).1] at e2
 cases ha : argsD idsy h args with
 | none => rw [ha] at e2; cases e2
 | some fa =>
 rw [ha] at e2
 have e2 : on none (c0 q fa (hide idsy h.shut)) _ = some (vy, h2) := e2
 cases hc0 : c0 q fa (hide idsy h.shut) with
 | none => rw [hc0] at e2; cases e2
 | some p =>
  rw [hc0] at e2
  obtain ⟨hn0, e2⟩ := bi_some (c := Nat.ble ((appE ex (base + i) h).look 0).next p.2.next && okD idsy args p.1) e2
  injection e2 with ea eb
  rw [Heap.next_look, a1.1] at hn0
  have hn1 := hn0
  rw [Bool.and_eq_true] at hn1
  have hn := ble_iff.1 hn1.1
  subst ea eb
  have hcall : callR P c0 oy ρy idsy h = some (p.1, (back h idsy p.2).win h.lim h.top 0) := by
   rw [hcq, ha]
   show on none (c0 q fa (hide idsy h.shut)) _ = _
   rw [hc0]
   show bi (Nat.ble h.next p.2.next && okD idsy args p.1) _ none = _
   rw [hn0, bi_true]
  refine ⟨_, hcall, ?_⟩
  have hw1 := win_call (ids := idsy) hw hn
  have m1 : effV P ox ρx (view bi' idsx ((back h idsy p.2).win h.lim h.top 0)) (base + i) = some ex := by
   refine effV_mono (by omega) (fun k hk b hb hv => ?_) hex
   rw [view_same hw hw1 (fun hs hnm hr => ?_) hv]
   rw [Heap.raw_win, raw_back, if_pos (cov.read k hk b hb)]
  rw [effR_of m1, beside_eq hx cov okx h p.2 (by omega) hn hw.mask]
end
end Go.Zev

/-
  Drawn regions: what the numbers' bits mean; which pairs may change places.
-/
set_option linter.unusedSimpArgs false
set_option linter.unusedVariables false
namespace Go.Zev
open Go
theorem bindsAny_eq (e : Edge) : Region.binds .any e = bindsAny e := by
 unfold Region.binds bindsAny
 cases e.ground <;> rfl
theorem nth0_eq (l : List Nat) (n : Nat) : nth0 l n = (l[n]?).getD 0 := by
 unfold nth0
 rw [lnth_eq]
 cases l[n]? <;> rfl
theorem force_eq {β : Type} (n : Nat) (k : Nat → β) : force n k = k n := by cases n <;> rfl
theorem bitsOf_spec (acc : List Nat) : ∀ (es : List Edge) (i : Nat), Nat.testBit (bitsOf acc es) i = true → ∃ e ∈ es, bindsAny e = true ∧ (e.on = i ∨ Nat.testBit (nth0 acc e.on) i = true)
 | [], i, h => by simp [bitsOf] at h
 | e :: es, i, h => by
  have h' : Nat.testBit (bi (bindsAny e) (Nat.lor (Nat.lor (2 ^ e.on) (nth0 acc e.on)) (bitsOf acc es)) (bitsOf acc es)) i = true := h
  cases hb : bindsAny e with
  | false =>
   rw [hb, bi_false] at h'
   obtain ⟨e', h1, h2⟩ := bitsOf_spec acc es i h'
   exact ⟨e', List.mem_cons_of_mem _ h1, h2⟩
  | true =>
   rw [hb, bi_true] at h'
   have h2 : (2 ^ e.on ||| nth0 acc e.on ||| bitsOf acc es).testBit i = true := h'
   rw [Nat.testBit_or, Nat.testBit_or, Bool.or_eq_true, Bool.or_eq_true] at h2
   rcases h2 with (h2 | h2) | h2
   ·rw [Nat.testBit_two_pow] at h2
    exact ⟨e, List.mem_cons_self .., hb, .inl (by simpa using h2)⟩
   ·exact ⟨e, List.mem_cons_self .., hb, .inr h2⟩
   ·obtain ⟨e', h3, h4⟩ := bitsOf_spec acc es i h2
    exact ⟨e', List.mem_cons_of_mem _ h3, h4⟩
theorem befs_pre [Env] : ∀ (l : List Oper) (acc : List Nat) (j : Nat), j < acc.length → (befs l acc)[j]? = acc[j]?
 | [], acc, j, _ => rfl
 | o :: l, acc, j, h => by
  show (force (bitsOf acc o.after.toList) fun b => befs l (lapp acc [b]))[j]? = _
  rw [force_eq, befs_pre l _ j (by rw [lapp_eq]; simp; omega), lapp_eq, List.getElem?_append, if_pos h]
theorem befs_len [Env] : ∀ (l : List Oper) (acc : List Nat), (befs l acc).length = acc.length + l.length
 | [], acc => by simp [befs]
 | o :: l, acc => by
  show (force (bitsOf acc o.after.toList) fun b => befs l (lapp acc [b])).length = _
  rw [force_eq, befs_len l, lapp_eq]; simp; omega
theorem befs_at [Env] : ∀ (l : List Oper) (acc : List Nat) (m : Nat) (o : Oper), l[m]? = some o → ∃ pre, (∀ q, q < acc.length + m → pre[q]? = (befs l acc)[q]?) ∧ (befs l acc)[acc.length + m]? = some (bitsOf pre o.after.toList) ∧ pre.length = acc.length + m
 | [], acc, m, o, h => by simp at h
 | o' :: l, acc, 0, o, h => by
  simp at h; subst h
  refine ⟨acc, fun q hq => (befs_pre _ _ _ (by omega)).symm, ?_, by simp⟩
  show (force (bitsOf acc o'.after.toList) fun b => befs l (lapp acc [b]))[acc.length + 0]? = _
  rw [force_eq, befs_pre l _ _ (by rw [lapp_eq]; simp), lapp_eq]
  simp
 | o' :: l, acc, m + 1, o, h => by
  have e : befs (o' :: l) acc = befs l (lapp acc [bitsOf acc o'.after.toList]) := by
   show (force (bitsOf acc o'.after.toList) fun b => befs l (lapp acc [b])) = _
   rw [force_eq]
  obtain ⟨pre, h1, h2, h3⟩ := befs_at l (lapp acc [bitsOf acc o'.after.toList]) m o (by simpa using h)
  have hl : (lapp acc [bitsOf acc o'.after.toList]).length = acc.length + 1 := by rw [lapp_eq]; simp
  rw [hl] at h1 h2 h3
  rw [e]
  exact ⟨pre, fun q hq => h1 q (by omega), by rw [show acc.length + (m + 1) = acc.length + 1 + m by omega]; exact h2, by omega⟩
section
variable {ops : Array Oper}
noncomputable def bts (ops : Array Oper) (j : Nat) : Nat := nth0 (befores ops) j
def Back (ops : Array Oper) : Prop := ∀ (j : Nat) (o : Oper), ops[j]? = some o → ∀ e ∈ o.after, bindsAny e = true → e.on < j
theorem edges_ok : ∀ (l : List Oper) (j : Nat), edgesOK l j = true → ∀ (m : Nat) (o : Oper), l[m]? = some o → ∀ e ∈ o.after.toList, bindsAny e = true → e.on < j + m
 | [], j, _, m, o, h => by simp at h
 | o' :: l, j, hk, m, o, h => by
  have hk' : bi (lall (fun e : Edge => bi (bindsAny e) (Nat.blt e.on j) true) o'.after.toList) (edgesOK l (j + 1)) false = true := hk
  cases hb : lall (fun e : Edge => bi (bindsAny e) (Nat.blt e.on j) true) o'.after.toList with
  | false => rw [hb] at hk'; cases hk'
  | true =>
   rw [hb] at hk'
   cases m with
   | zero =>
    simp at h; subst h
    rw [lall_eq, List.all_eq_true] at hb
    intro e he hbe
    have := hb e he
    rw [hbe] at this
    have := blt_iff.1 this
    omega
   | succ m =>
    intro e he hbe
    have := edges_ok l (j + 1) hk' m o (by simpa using h) e he hbe
    omega
theorem back_ok [Env] (hk : edgesOK ops.toList 0 = true) : Back ops := by
 intro j o ho e he hbe
 have := edges_ok ops.toList 0 hk j o (by simpa using ho) e (by simpa using he) hbe
 omega
theorem bts_spec [Env] (hb : Back ops) {j i : Nat} {o : Oper} (ho : ops[j]? = some o) (ht : Nat.testBit (bts ops j) i = true) : ∃ e ∈ o.after, bindsAny e = true ∧ (e.on = i ∨ Nat.testBit (bts ops e.on) i = true) := by
 obtain ⟨pre, h1, h2, h3⟩ := befs_at ops.toList [] j o (by simpa using ho)
 simp only [List.length_nil, Nat.zero_add] at h1 h2 h3
 have hbt : bts ops j = bitsOf pre o.after.toList := by unfold bts befores; rw [nth0_eq, h2]; rfl
 rw [hbt] at ht
 obtain ⟨e, he, hbi, hor⟩ := bitsOf_spec pre _ i ht
 refine ⟨e, by simpa using he, hbi, ?_⟩
 rcases hor with h | h
 ·exact .inl h
 ·refine .inr ?_
  have hlt := hb j o ho e (by simpa using he) hbi
  unfold bts befores
  rw [nth0_eq] at h ⊢
  rw [← h1 e.on hlt]
  exact h
theorem bts_lt [Env] (hb : Back ops) : ∀ (j i : Nat) (o : Oper), ops[j]? = some o → Nat.testBit (bts ops j) i = true → i < j := by
 intro j
 induction j using Nat.strongRecOn with
 | _ j ih =>
  intro i o ho ht
  obtain ⟨e, he, hbi, hor⟩ := bts_spec hb ho ht
  have hlt := hb j o ho e he hbi
  rcases hor with h | h
  ·omega
  ·have hs : e.on < ops.size := by
    have := (Array.getElem?_eq_some_iff.1 ho).1
    omega
   have := ih e.on hlt i ops[e.on] (Array.getElem?_eq_getElem hs) h
   omega
def Closed (ops : Array Oper) (listed : Array Bool) : Prop := ∀ (j : Nat) (o : Oper), ops[j]? = some o → listed.getD j false = true → ∀ e ∈ o.after, bindsAny e = true → listed.getD e.on false = true
theorem bts_listed [Env] (hb : Back ops) {listed : Array Bool} (hc : Closed ops listed) : ∀ (j i : Nat) (o : Oper), ops[j]? = some o → (∀ e ∈ o.after, bindsAny e = true → listed.getD e.on false = true) → Nat.testBit (bts ops j) i = true → listed.getD i false = true := by
 intro j
 induction j using Nat.strongRecOn with
 | _ j ih =>
  intro i o ho hl ht
  obtain ⟨e, he, hbi, hor⟩ := bts_spec hb ho ht
  have hlt := hb j o ho e he hbi
  have hle := hl e he hbi
  rcases hor with h | h
  ·rw [← h]; exact hle
  ·have hs : e.on < ops.size := by
    have := (Array.getElem?_eq_some_iff.1 ho).1
    omega
   exact ih e.on hlt i _ (Array.getElem?_eq_getElem hs) (hc e.on _ (Array.getElem?_eq_getElem hs) hle) h
theorem rows_ok (y : Oper) (bj j : Nat) : ∀ (l : List Oper) (i : Nat), rowOK ops y bj j l i = true → ∀ (m : Nat) (x : Oper), l[m]? = some x → i + m < j → Nat.testBit bj (i + m) = false → pairOK ops (i + m) x y = true
 | [], i, _, m, x, h, _, _ => by simp at h
 | x' :: l, i, hk, m, x, h, hlt, ht => by
  have hk' : bi (Nat.ble j i) true (bi (Nat.testBit bj i || pairOK ops i x' y) (rowOK ops y bj j l (i + 1)) false) = true := hk
  have hji : Nat.ble j i = false := by cases hb : Nat.ble j i; rfl; have := ble_iff.1 hb; omega
  rw [hji, bi_false] at hk'
  cases hp : (Nat.testBit bj i || pairOK ops i x' y) with
  | false => rw [hp] at hk'; cases hk'
  | true =>
   rw [hp] at hk'
   cases m with
   | zero =>
    simp at h; subst h
    rw [Bool.or_eq_true] at hp
    rcases hp with h | h
    ·rw [Nat.add_zero] at ht; rw [ht] at h; cases h
    ·exact h
   | succ m =>
    have := rows_ok y bj j l (i + 1) hk' m x (by simpa using h) (by omega) (by rw [show i + 1 + m = i + (m + 1) by omega]; exact ht)
    rwa [show i + 1 + m = i + (m + 1) by omega] at this
theorem draw_rows : ∀ (l : List Oper) (bs : List Nat) (j : Nat), drawOK ops l bs j = true → ∀ (m : Nat) (y : Oper), l[m]? = some y → ∃ b, bs[m]? = some b ∧ rowOK ops y b (j + m) ops.toList 0 = true
 | [], bs, j, _, m, y, h => by simp at h
 | y' :: l, [], j, hk, m, y, h => by cases hk
 | y' :: l, b :: bs, j, hk, m, y, h => by
  have hk' : bi (rowOK ops y' b j ops.toList 0) (drawOK ops l bs (j + 1)) false = true := hk
  cases hr : rowOK ops y' b j ops.toList 0 with
  | false => rw [hr] at hk'; cases hk'
  | true =>
   rw [hr] at hk'
   cases m with
   | zero => simp at h; subst h; exact ⟨b, rfl, hr⟩
   | succ m =>
    obtain ⟨b', h1, h2⟩ := draw_rows l bs (j + 1) hk' m y (by simpa using h)
    exact ⟨b', by simpa using h1, by rw [show j + (m + 1) = j + 1 + m by omega]; exact h2⟩
theorem pair_ok [Env] (hk : drawOK ops ops.toList (befores ops) 0 = true) {i j : Nat} {x y : Oper} (hx : ops[i]? = some x) (hy : ops[j]? = some y) (hij : i < j) (ht : Nat.testBit (bts ops j) i = false) : pairOK ops i x y = true := by
 obtain ⟨b, h1, h2⟩ := draw_rows ops.toList (befores ops) 0 hk j y (by simpa using hy)
 have hb : b = bts ops j := by unfold bts; rw [nth0_eq, h1]; rfl
 rw [Nat.zero_add, hb] at h2
 have := rows_ok y _ j ops.toList 0 h2 i x (by simpa using hx) (by omega) (by rw [Nat.zero_add]; exact ht)
 rwa [Nat.zero_add] at this
end
end Go.Zev

/-
  Drawn regions: steps on states; two steps change places.
-/
set_option linter.unusedSimpArgs false
set_option linter.unusedVariables false
namespace Go.Zev
open Go
abbrev S3 := Tm × Loc × Heap
noncomputable def some3 : K (Option S3) := fun t l h => some (t, l, h)
section
variable {P : Program} {c0 : C0} {nv base n : Nat} {ops : Array Oper} {Dp : List Nat}
noncomputable def stepS (P : Program) (c0 : C0) (nv : Nat) (Dp : List Nat) (ops : Array Oper) (base j : Nat) (o : Oper) (ids : List Nat) (s : S3) : Option S3 :=
 stepI P none (callOf c0 none) nv Dp ops base j (bts ops j) o ids some3 s.1 s.2.1 s.2.2
theorem slot_put (hnv : nv ≤ 512) (d : Option Nat) (v : AV) (t : Tm) (l : Loc) (k : Nat) : slot nv (putT nv d v t) (putL nv d v l) k = if d = some k then v else slot nv t l k := by
 cases d with
 | none => simp [putT, putL]
 | some d =>
  show slot nv (bi (Nat.blt d nv) (Tm.set t d v) t) (bi (Nat.blt d nv) l (lput l d v)) k = _
  rw [slot_eq, slot_eq, bi_eq, bi_eq]
  by_cases hdn : d < nv
  ·rw [if_pos (blt_iff.2 hdn), if_pos (blt_iff.2 hdn)]
   by_cases hk : k < nv
   ·rw [if_pos hk, if_pos hk, Tm.get_set _ _ (by omega) (by omega)]
    by_cases e : k = d
    ·rw [if_pos e, if_pos (by rw [e])]
    ·rw [if_neg e, if_neg (fun x => e (by injection x with x; exact x.symm))]
   ·rw [if_neg hk, if_neg hk, if_neg (fun x => by injection x with x; omega)]
  ·rw [if_neg (fun e => hdn (blt_iff.1 e)), if_neg (fun e => hdn (blt_iff.1 e))]
   by_cases hk : k < nv
   ·rw [if_pos hk, if_pos hk, if_neg (fun x => by injection x with x; omega)]
   ·rw [if_neg hk, if_neg hk, lget_lput]
    by_cases e : d = k
    ·rw [if_pos e, if_pos (by rw [e])]
    ·rw [if_neg e, if_neg (fun x => e (by injection x))]
theorem putT_comm [Env] (hnv : nv ≤ 512) {d d' : Option Nat} (v v' : AV) (t : Tm) (hd : ∀ k, d = some k → d' ≠ some k) : putT nv d' v' (putT nv d v t) = putT nv d v (putT nv d' v' t) := by
 cases d with
 | none => rfl
 | some d =>
  cases d' with
  | none => rfl
  | some d' =>
   have hne : d ≠ d' := fun e => hd d rfl (by rw [e])
   show bi (Nat.blt d' nv) (Tm.set (bi (Nat.blt d nv) (Tm.set t d v) t) d' v') (bi (Nat.blt d nv) (Tm.set t d v) t) = bi (Nat.blt d nv) (Tm.set (bi (Nat.blt d' nv) (Tm.set t d' v') t) d v) (bi (Nat.blt d' nv) (Tm.set t d' v') t)
   simp only [bi_eq]
   by_cases h1 : Nat.blt d nv = true <;> by_cases h2 : Nat.blt d' nv = true
   ·simp only [h1, h2, if_true]
    have := blt_iff.1 h1; have := blt_iff.1 h2
    exact Tm.set_comm t v v' (by omega) (by omega) hne
   ·simp [h1, h2]
   ·simp [h1, h2]
   ·simp [h1, h2]
theorem putL_comm {d d' : Option Nat} (v v' : AV) (l : Loc) (hd : ∀ k, d = some k → d' ≠ some k) : putL nv d' v' (putL nv d v l) = putL nv d v (putL nv d' v' l) := by
 cases d with
 | none => rfl
 | some d =>
  cases d' with
  | none => rfl
  | some d' =>
   have hne : d ≠ d' := fun e => hd d rfl (by rw [e])
   show bi (Nat.blt d' nv) (bi (Nat.blt d nv) l (lput l d v)) (lput (bi (Nat.blt d nv) l (lput l d v)) d' v') = bi (Nat.blt d nv) (bi (Nat.blt d' nv) l (lput l d' v')) (lput (bi (Nat.blt d' nv) l (lput l d' v')) d v)
   simp only [bi_eq]
   by_cases h1 : Nat.blt d nv = true <;> by_cases h2 : Nat.blt d' nv = true
   ·simp [h1, h2]
   ·simp [h1, h2]
   ·simp [h1, h2]
   ·simp [h1, h2]; exact lput_comm l v v' hne
theorem looks_op {o : Oper} {k : Nat} (hk : Operand.tmp k ∈ o.op.operands.toList) : k ∈ o.looksAt ops := by
 unfold Oper.looksAt
 exact List.mem_append_left _ (List.mem_filterMap.2 ⟨.tmp k, hk, rfl⟩)
theorem opnd_put [Env] (hnv : nv ≤ 512) {o : Oper} {d : Option Nat} (hd : ∀ k, d = some k → k ∉ o.looksAt ops) (v : AV) (t : Tm) (l : Loc) : ∀ x ∈ o.op.operands.toList, opnd nv (putT nv d v t) (putL nv d v l) x = opnd nv t l x := by
 intro x hx
 cases x with
 | tmp k =>
  show slot nv _ _ k = slot nv t l k
  rw [slot_put hnv, if_neg]
  intro e
  exact hd k e (looks_op hx)
 | _ => rfl
theorem stay_of {ks : List Nat} (hs : stayAll ops ks = true) {k : Nat} (hk : k ∈ ks) {m : Nat} {z : Oper} (hz : ops[m]? = some z) : z.dst ≠ some k := by
 intro e
 unfold stayAll at hs
 rw [lall_eq, List.all_eq_true] at hs
 have := hs k hk
 rw [lany_eq, Bool.not_eq_true', List.any_eq_false] at this
 have h2 := this z (List.mem_of_getElem? (i := m) (by simpa using hz))
 unfold dstIs at h2
 rw [e] at h2
 exact h2 (beq_iff.2 rfl)
theorem root_stay : ∀ (f k r : Nat), rootOf ops f k = some r → stayAll ops [r] = true
 | 0, k, r, h => by cases h
 | f + 1, k, r, h => by
  have h' : bi (stayAll ops [k]) (some k) (ob (layOp ops k) fun o => ob (fromSlot o) (rootOf ops f)) = some r := h
  cases hs : stayAll ops [k] with
  | true => rw [hs] at h'; injection h' with h'; subst h'; exact hs
  | false =>
   rw [hs] at h'
   obtain ⟨o, _, h'⟩ := ob_prop h'
   obtain ⟨x, _, h'⟩ := ob_prop h'
   exact root_stay f x r h'
theorem root_self {k : Nat} (hs : stayAll ops [k] = true) : rootOf ops 6 k = some k := by
 show bi (stayAll ops [k]) (some k) _ = _
 rw [hs, bi_true]
theorem reads_op {op : Op} {k : Nat} (hk : k ∈ readSlots op) : Operand.tmp k ∈ op.operands.toList := by
 cases op <;> first | (simp [readSlots] at hk; done) | skip
 ·rename_i t x
  cases x <;> simp [readSlots] at hk
  subst hk
  simp [Op.operands]
 ·rename_i t x y
  cases x <;> simp [readSlots] at hk
  subst hk
  simp [Op.operands]
 ·rename_i c
  have hk' : k ∈ (match c.args.toList with | [.tmp a, .tmp b] => bi (Nat.beq (kindOf (.call c)) 3) [a, b] [] | _ => []) := hk
  simp only [Op.operands, Call.operands, Array.toList_append]
  refine List.mem_append_right _ ?_
  split at hk'
  ·rename_i a b hab
   rw [hab]
   rw [bi_eq] at hk'
   split at hk'
   ·simp at hk'
    rcases hk' with rfl | rfl <;> simp
   ·cases hk'
  ·cases hk'
theorem lall_congr {α : Type} {p q : α → Bool} : ∀ {l : List α}, (∀ x ∈ l, p x = q x) → lall p l = lall q l
 | [], _ => rfl
 | x :: l, h => by
  show (bi (p x) (lall p l) false) = bi (q x) (lall q l) false
  rw [h x (List.mem_cons_self ..), lall_congr fun y hy => h y (List.mem_cons_of_mem _ hy)]
theorem chk_put [Env] (hnv : nv ≤ 512) {o : Oper} {d : Option Nat} (hd : ∀ k, d = some k → k ∉ o.looksAt ops) (hz : ∃ (m : Nat) (z : Oper), ops[m]? = some z ∧ z.dst = d) (v : AV) (t : Tm) (l : Loc) : chk ops nv Dp (putT nv d v t) (putL nv d v l) o = chk ops nv Dp t l o := by
 obtain ⟨m, z, hz, rfl⟩ := hz
 unfold chk
 split
 ·refine lall_congr fun k hk => ?_
  have hk1 : slot nv (putT nv z.dst v t) (putL nv z.dst v l) k = slot nv t l k := by
   rw [slot_put hnv, if_neg]
   intro e
   exact hd k e (looks_op (reads_op hk))
  unfold rootOK
  cases hr : rootOf ops 6 k with
  | none => dsimp only; rw [hk1]
  | some r =>
   have hk2 : slot nv (putT nv z.dst v t) (putL nv z.dst v l) r = slot nv t l r := by
    rw [slot_put hnv, if_neg]
    exact stay_of (root_stay 6 k r hr) (List.mem_singleton.2 rfl) hz
   dsimp only
   rw [hk1, hk2]
 ·rfl
theorem gd_put [Env] (hnv : nv ≤ 512) {o : Oper} {d : Option Nat} (hd : ∀ k, d = some k → k ∉ o.looksAt ops) (hz : ∃ (m : Nat) (z : Oper), ops[m]? = some z ∧ z.dst = d) (v : AV) (t : Tm) (l : Loc) : gd ops nv Dp (putT nv d v t) (putL nv d v l) o = gd ops nv Dp t l o := by
 unfold gd
 rw [chk_put hnv hd hz]
 congr 1
 unfold gd0 wantedK
 cases hg : o.guard with
 | none => rfl
 | some q =>
  show guardK none ops nv _ _ q _ _ = guardK none ops nv t l q _ _
  unfold guardK
  cases hs : guardSlot ops q.1 with
  | none => rfl
  | some k =>
   show boolK none q.2 (slot nv _ _ k) _ _ = boolK none q.2 (slot nv t l k) _ _
   rw [slot_put hnv, if_neg]
   intro e
   refine hd k e ?_
   unfold Oper.looksAt
   rw [hg]
   obtain ⟨j, want⟩ := q
   refine List.mem_append_right _ ?_
   unfold guardSlot at hs
   dsimp only at hs ⊢
   cases ho : ops[j]? with
   | none => rw [ho] at hs; cases hs
   | some z => rw [ho] at hs; dsimp only at hs; simp [hs]
theorem runR_put [Env] (hnv : nv ≤ 512) {o : Oper} {d : Option Nat} (hd : ∀ k, d = some k → k ∉ o.looksAt ops) (v : AV) (t : Tm) (l : Loc) (b id : Nat) (ids : List Nat) (h : Heap) :
  runR P c0 o.op (opnd nv (putT nv d v t) (putL nv d v l)) b id ids h = runR P c0 o.op (opnd nv t l) b id ids h := by
 have hρ := opnd_put (o := o) hnv hd v t l
 unfold runR effR callR
 rw [effV_congr hρ, effV_congr hρ, table_congr none hρ]
theorem rawR_put [Env] (hnv : nv ≤ 512) {o : Oper} {d : Option Nat} (hd : ∀ k, d = some k → k ∉ o.looksAt ops) (hz : ∃ (m : Nat) (z : Oper), ops[m]? = some z ∧ z.dst = d) (v : AV) (t : Tm) (l : Loc) (b id : Nat) (ids : List Nat) (h : Heap) :
  rawR P c0 nv Dp ops o b id ids (putT nv d v t) (putL nv d v l) h = rawR P c0 nv Dp ops o b id ids t l h := by
 unfold rawR
 rw [gd_put hnv hd hz, runR_put hnv hd]
theorem stepS_eq [Env] {j : Nat} {o : Oper} (hk : kindOf o.op < 5) (ids : List Nat) {s : S3} (hw : Win base n s.2.2) (hj : j < n) (h3 : kindOf o.op = 3 → ¬ Hid ids (base + j)) :
  stepS P c0 nv Dp ops base j o ids s = on none (rawR P c0 nv Dp ops o (bts ops j) (base + j) ids s.1 s.2.1 s.2.2) fun p => some (putT nv o.dst p.1 s.1, putL nv o.dst p.1 s.2.1, p.2) := by
 unfold stepS
 rw [stepI_eq none hk ids some3 s.1 s.2.1 s.2.2 (by have := hw.next; omega) hw.mask h3]
 rfl
theorem win_look {h h' : Heap} (hw : Win base n h) (hm : h.look 0 = h') : Win base n h' := by
 subst hm
 exact ⟨by rw [Heap.lim_look, hw.lim], by rw [Heap.top_look, hw.top], by simp, by rw [Heap.next_look]; exact hw.next⟩
theorem win_raw [Env] {j : Nat} {o : Oper} (hk : kindOf o.op < 5) {ids : List Nat} {t : Tm} {l : Loc} {h : Heap} {p : AV × Heap} (hw : Win base n h) (hj : j < n) (he : rawR P c0 nv Dp ops o (bts ops j) (base + j) ids t l h = some p) : Win base n p.2 := by
 unfold rawR at he
 cases hg : gd ops nv Dp t l o with
 | none => rw [hg] at he; cases he
 | some q =>
  rw [hg] at he
  cases q with
  | false => injection he with he; subst he; exact win_look hw rfl
  | true =>
   have he : runR P c0 o.op (opnd nv t l) (bts ops j) (base + j) ids h = some p := he
   unfold runR at he
   obtain ⟨v, h'⟩ := p
   split at he
   ·rename_i h4
    rcases callR_eq (P := P) (c0 := c0) h4 (opnd nv t l) with h0 | ⟨q, args, hcq⟩
    ·rw [h0] at he; cases he
    ·rw [hcq] at he
     cases hfa : argsD ids h args with
     | none => rw [hfa] at he; cases he
     | some fa =>
     rw [hfa] at he
     have he : on none (c0 q fa (hide ids h.shut)) _ = some (v, h') := he
     cases hc0 : c0 q fa (hide ids h.shut) with
     | none => rw [hc0] at he; cases he
     | some z =>
      rw [hc0] at he
      obtain ⟨hn, he⟩ := bi_some (c := Nat.ble h.next z.2.next && okD ids args z.1) he
      injection he with ea eb
      subst eb
      rw [Bool.and_eq_true] at hn
      exact win_call hw (ble_iff.1 hn.1)
   ·split at he
    ·split at he
     ·cases he
     ·obtain ⟨e, _, _, rfl⟩ := effR_some he
      exact win_eff hw hj
    ·split at he
     ·obtain ⟨e, _, _, rfl⟩ := effR_some he
      exact win_eff hw hj
     ·obtain ⟨e, _, _, rfl⟩ := effR_some he
      exact win_eff hw hj
structure PairOK (ops : Array Oper) (i : Nat) (x y : Oper) : Prop where
 xy : x.apart ops y = true
 yx : y.apart ops x = true
 kx : kindOf x.op < 5
 ky : kindOf y.op < 5
 callX : kindOf x.op = 4 → kindOf y.op < 3 ∧ sure ops y.op = true
 callY : kindOf x.op ≠ 4 → kindOf y.op = 4 → kindOf x.op < 3 ∧ sure ops x.op = true
 rest : kindOf x.op ≠ 4 → kindOf y.op ≠ 4 → stay ops i (readSlots x.op) = true
theorem pairOK_iff {i : Nat} {x y : Oper} (h : pairOK ops i x y = true) : PairOK ops i x y := by
 unfold pairOK at h
 simp only [Bool.and_eq_true] at h
 obtain ⟨⟨⟨⟨h1, h2⟩, h3⟩, h4⟩, h5⟩ := h
 have k1 := blt_iff.1 h3
 have k2 := blt_iff.1 h4
 have nb : ∀ {a b : Nat}, a ≠ b → Nat.beq a b = false := fun {a b} hne => by cases hb : Nat.beq a b; rfl; exact absurd (beq_iff.1 hb) hne
 refine ⟨h1, h2, k1, k2, fun e => ?_, fun e1 e2 => ?_, fun e1 e2 => ?_⟩
 ·rw [beq_iff.2 e] at h5
  have h5 : (!Nat.beq (kindOf y.op) 4 && !Nat.beq (kindOf y.op) 3 && sure ops y.op) = true := h5
  simp only [Bool.and_eq_true] at h5
  have a1 : kindOf y.op ≠ 4 := fun e => by have := h5.1.1; rw [beq_iff.2 e] at this; cases this
  have a2 : kindOf y.op ≠ 3 := fun e => by have := h5.1.2; rw [beq_iff.2 e] at this; cases this
  exact ⟨by omega, h5.2⟩
 ·rw [nb e1] at h5
  have h5 : bi (Nat.beq (kindOf y.op) 4) (!Nat.beq (kindOf x.op) 3 && sure ops x.op) (stay ops i (readSlots x.op)) = true := h5
  rw [beq_iff.2 e2] at h5
  have h5 : (!Nat.beq (kindOf x.op) 3 && sure ops x.op) = true := h5
  rw [Bool.and_eq_true] at h5
  have a2 : kindOf x.op ≠ 3 := fun e => by have := h5.1; rw [beq_iff.2 e] at this; cases this
  exact ⟨by omega, h5.2⟩
 ·rw [nb e1] at h5
  have h5 : bi (Nat.beq (kindOf y.op) 4) (!Nat.beq (kindOf x.op) 3 && sure ops x.op) (stay ops i (readSlots x.op)) = true := h5
  rw [nb e2] at h5
  exact h5
theorem stay_spec {i : Nat} {ks : List Nat} (hs : stay ops i ks = true) {m : Nat} {z : Oper} (hz : ops[m]? = some z) (hm : i ≤ m) {k : Nat} (hk : k ∈ ks) : z.dst ≠ some k := by
 intro e
 unfold stay at hs
 rw [lall_eq, List.all_eq_true] at hs
 have := hs k hk
 rw [ldrop_eq, lany_eq, Bool.not_eq_true', List.any_eq_false] at this
 have hmem : z ∈ ops.toList.drop i := List.mem_of_getElem? (i := m - i) (by rw [List.getElem?_drop, show i + (m - i) = m by omega]; simpa using hz)
 have h2 := this z hmem
 unfold dstIs at h2
 rw [e] at h2
 exact h2 (beq_iff.2 rfl)
theorem stayAll_spec [Env] {ks : List Nat} (hs : stayAll ops ks = true) {m : Nat} {z : Oper} (hz : ops[m]? = some z) {k : Nat} (hk : k ∈ ks) : z.dst ≠ some k := by
 refine stay_spec (i := 0) ?_ hz (Nat.zero_le _) hk
 unfold stayAll at hs
 unfold stay
 rw [ldrop_eq, List.drop_zero]
 exact hs
end
end Go.Zev

/-
  Drawn regions: whatever comes up first.
-/
set_option linter.unusedSimpArgs false
set_option linter.unusedVariables false
namespace Go.Zev
open Go
section
variable {P : Program} {c0 : C0} {nv base : Nat} {ops : Array Oper} {Dp : List Nat}
structure BesideR (ops : Array Oper) (nv : Nat) (Dp : List Nat) (oy : Op) (t : Tm) (l : Loc) (id : Nat) (ids : List Nat) : Prop where
 num : kindOf oy = 1 → id ∈ ids
 read : far ∈ ids ∨ ∀ k ∈ readSlots oy, (∃ r, rootOf ops 6 k = some r ∧ ∀ b, (slot nv t l r).blk = some b → Hid ids b) ∨ (rootOf ops 6 k = none ∧ Nat.beq nv deepN = true ∧ ∀ b ∈ Dp, Hid ids b)
 write : writes oy = true → ∀ k ∈ readSlots oy, ∀ b, (slot nv t l k).blk = some b → b ∈ ids
theorem root_blk {t : Tm} {l : Loc} {k r b : Nat} (hc : rootOK ops nv Dp t l k = true) (hr : rootOf ops 6 k = some r) (hb : (slot nv t l k).blk = some b) : (slot nv t l r).blk = some b := by
 unfold rootOK at hc
 cases hs : stayAll ops [k] with
 | true =>
  rw [root_self hs] at hr
  injection hr with hr
  rw [← hr]; exact hb
 | false =>
  rw [hs, bi_false, hr] at hc
  have hc : blkOK (slot nv t l k) (slot nv t l r) = true := hc
  unfold blkOK at hc
  rw [hb] at hc
  dsimp only at hc
  cases hq : (slot nv t l r).blk with
  | none => rw [hq] at hc; cases hc
  | some c => rw [hq] at hc; rw [beq_iff.1 hc]
theorem deep_blk {t : Tm} {l : Loc} {k b : Nat} (hc : rootOK ops nv Dp t l k = true) (hr : rootOf ops 6 k = none) (hn : Nat.beq nv deepN = true) (hb : (slot nv t l k).blk = some b) : b ∈ Dp := by
 unfold rootOK at hc
 cases hs : stayAll ops [k] with
 | true => rw [root_self hs] at hr; cases hr
 | false =>
  rw [hs, bi_false, hr] at hc
  have hc : bi (Nat.beq nv deepN) (inD Dp (slot nv t l k)) true = true := hc
  rw [hn, bi_true] at hc
  unfold inD at hc
  rw [hb] at hc
  exact lany_mem0.1 hc
theorem BesideR.beside [Env] {oy : Oper} {t : Tm} {l : Loc} {id : Nat} {ids : List Nat} (c : BesideR ops nv Dp oy.op t l id ids) (hy : kindOf oy.op < 3) (hc : chk ops nv Dp t l oy = true) : Beside oy.op (opnd nv t l) id ids := by
 refine ⟨c.num, fun k hk b hb => ?_, c.write⟩
 rcases c.read with hf | hr
 ·exact .inr hf
 ·have k2 : kindOf oy.op = 2 := by rcases readSlots_kind hk with q | q; exact q; omega
  unfold chk at hc
  rw [if_pos k2, lall_eq, List.all_eq_true] at hc
  rcases hr k hk with ⟨r, hr, h⟩ | ⟨hr, hn, h⟩
  ·exact h b (root_blk (hc k hk) hr hb)
  ·exact h b (deep_blk (hc k hk) hr hn hb)
structure Cov (ops : Array Oper) (nv : Nat) (Dp : List Nat) (base : Nat) (listed : Array Bool) (j : Nat) (o : Oper) (s : S3) (ids : List Nat) : Prop where
 own : kindOf o.op = 3 → ¬ Hid ids (base + j)
 app : ∀ i x, ops[i]? = some x → listed.getD i false = true → i < j → Nat.testBit (bts ops j) i = false → ∀ k ∈ cSlots x.op o.op, ∀ b, (slot nv s.1 s.2.1 k).blk = some b → Hid ids b
 call : kindOf o.op = 4 → ∀ i x, ops[i]? = some x → i ≠ j → Nat.testBit (bts ops j) i = false → Nat.testBit (bts ops i) j = false →
  (kindOf x.op = 1 → base + i ∈ ids) ∧ (writes x.op = true → ∀ k ∈ readSlots x.op, ∀ b, (slot nv s.1 s.2.1 k).blk = some b → b ∈ ids) ∧
  (far ∈ ids ∨ ∀ k ∈ readSlots x.op, (∃ r, rootOf ops 6 k = some r ∧ ∀ b, (slot nv s.1 s.2.1 r).blk = some b → Hid ids b) ∨ (rootOf ops 6 k = none ∧ Nat.beq nv deepN = true ∧ ∀ b ∈ Dp, Hid ids b))
theorem Cov.call' {listed : Array Bool} {j : Nat} {o : Oper} {s : S3} {ids : List Nat} (c : Cov ops nv Dp base listed j o s ids) (h4 : kindOf o.op = 4) (i : Nat) (x : Oper) (hx : ops[i]? = some x) (hij : i ≠ j) (h1 : Nat.testBit (bts ops j) i = false) (h2 : Nat.testBit (bts ops i) j = false) :
  BesideR ops nv Dp x.op s.1 s.2.1 (base + i) ids := by
 obtain ⟨q0, q1, q2⟩ := c.call h4 i x hx hij h1 h2
 exact ⟨q0, q2, q1⟩
noncomputable def idsOf (op : Op) (ids : List Nat) : List Nat := if kindOf op = 2 ∨ kindOf op = 3 then ids else []
theorem runR_lt {op : Op} (hk : kindOf op < 4) {ρ : Operand → AV} {b id : Nat} {ids : List Nat} {h : Heap} (h3 : kindOf op = 3 → ¬ Hid ids id) : runR P c0 op ρ b id ids h = effR P op ρ b id (idsOf op ids) h := by
 unfold runR idsOf
 rw [if_neg (by omega)]
 by_cases e : kindOf op = 3
 ·rw [if_pos e, if_neg (h3 e), if_pos (.inr e)]
 ·rw [if_neg e]
  by_cases e2 : kindOf op = 2
  ·rw [if_pos e2, if_pos (.inl e2)]
  ·rw [if_neg e2, if_neg (by omega)]
theorem runR_call {op : Op} (hk : kindOf op = 4) {ρ : Operand → AV} {b id : Nat} {ids : List Nat} {h : Heap} : runR P c0 op ρ b id ids h = callR P c0 op ρ ids h := by
 unfold runR
 rw [if_pos hk]
theorem look_mask [Env] {h : Heap} (hm : h.mask = 0) : h.look 0 = h := Heap.eq (by simp) (by simp) (by simp) (by simp [hm]) (fun k => by simp)
theorem swap_raw [Env] (hb : Back ops) {i j : Nat} {x y : Oper} (hx : ops[i]? = some x) (hy : ops[j]? = some y) (hij : i < j) (ht : Nat.testBit (bts ops j) i = false) (pk : PairOK ops i x y)
  {t : Tm} {l : Loc} {h : Heap} (hw : Win base ops.size h) {idsx idsy : List Nat} {px py : AV × Heap}
  (o1 : kindOf x.op = 3 → ¬ Hid idsx (base + i)) (o2 : kindOf y.op = 3 → ¬ Hid idsy (base + j))
  (cApp : ∀ k ∈ cSlots x.op y.op, ∀ b, (slot nv t l k).blk = some b → Hid idsy b)
  (cX : kindOf x.op = 4 → BesideR ops nv Dp y.op t l (base + j) idsx)
  (cY : kindOf x.op ≠ 4 → kindOf y.op = 4 → BesideR ops nv Dp x.op t l (base + i) idsy)
  (e1 : rawR P c0 nv Dp ops x (bts ops i) (base + i) idsx t l h = some px) (e2 : rawR P c0 nv Dp ops y (bts ops j) (base + j) idsy t l px.2 = some py) :
  ∃ h1', rawR P c0 nv Dp ops y (bts ops j) (base + j) idsy t l h = some (py.1, h1') ∧ rawR P c0 nv Dp ops x (bts ops i) (base + i) idsx t l h1' = some (px.1, py.2) := by
 have hi : i < ops.size := (Array.getElem?_eq_some_iff.1 hx).1
 have hj : j < ops.size := (Array.getElem?_eq_some_iff.1 hy).1
 have hw1 : Win base ops.size px.2 := win_raw pk.kx hw hi e1
 have hw2 : Win base ops.size py.2 := win_raw pk.ky hw1 hj e2
 have htij : Nat.testBit (bts ops i) j = false := by
  cases hq : Nat.testBit (bts ops i) j with
  | false => rfl
  | true => have := bts_lt hb i j x hx hq; omega
 unfold rawR at e1 e2 ⊢
 cases hgx : gd ops nv Dp t l x with
 | none => rw [hgx] at e1; cases e1
 | some gx =>
  cases hgy : gd ops nv Dp t l y with
  | none => rw [hgy] at e2; cases e2
  | some gy =>
   rw [hgx] at e1
   rw [hgy] at e2
   cases gx with
   | false =>
    have e1 : some ((.tup [], h.look 0) : AV × Heap) = some px := e1
    injection e1 with e1
    subst e1
    rw [look_mask hw.mask] at e2
    refine ⟨py.2, e2, ?_⟩
    show some ((.tup [], py.2.look 0) : AV × Heap) = _
    rw [look_mask hw2.mask]
   | true =>
    have e1 : runR P c0 x.op (opnd nv t l) (bts ops i) (base + i) idsx h = some px := e1
    cases gy with
    | false =>
     have e2 : some ((.tup [], px.2.look 0) : AV × Heap) = some py := e2
     injection e2 with e2
     subst e2
     refine ⟨h, ?_, ?_⟩
     ·show some ((.tup [], h.look 0) : AV × Heap) = _
      rw [look_mask hw.mask]
     ·show runR P c0 x.op (opnd nv t l) (bts ops i) (base + i) idsx h = _
      rw [e1]
      show some px = some (px.1, px.2.look 0)
      rw [look_mask hw1.mask]
    | true =>
     have e2 : runR P c0 y.op (opnd nv t l) (bts ops j) (base + j) idsy px.2 = some py := e2
     show ∃ h1', runR P c0 y.op (opnd nv t l) (bts ops j) (base + j) idsy h = some (py.1, h1') ∧ runR P c0 x.op (opnd nv t l) (bts ops i) (base + i) idsx h1' = some (px.1, py.2)
     by_cases h4x : kindOf x.op = 4
     ·have hy3 := (pk.callX h4x).1
      have o2' : kindOf y.op = 3 → ¬ Hid idsy (base + j) := o2
      rw [runR_call h4x] at e1
      rw [runR_lt (by omega) o2] at e2 ⊢
      simp only [runR_call h4x]
      exact swap_call_l h4x hy3 hw hj ((cX h4x).beside hy3 (gd_chk hgy)) e1 e2
     ·by_cases h4y : kindOf y.op = 4
      ·have hx3 := (pk.callY h4x h4y).1
       rw [runR_call h4y] at e2 ⊢
       rw [runR_lt (by omega) o1] at e1
       simp only [runR_lt (show kindOf x.op < 4 by omega) o1]
       exact swap_call_r hx3 h4y hw hi ((cY h4x h4y).beside hx3 (gd_chk hgx)) e1 e2
      ·have kx := pk.kx
       have ky := pk.ky
       rw [runR_lt (by omega) o1] at e1
       rw [runR_lt (by omega) o2] at e2 ⊢
       simp only [runR_lt (show kindOf x.op < 4 by omega) o1]
       refine swap_eff (by omega) (by omega) hw hi hj (by omega) htij ht (fun k hk b hbk => ?_) e1 e2
       unfold idsOf
       rw [if_pos (by rcases (cSlots_mem hk).2 with q | q; exact .inr q; exact .inl q)]
       exact cApp k hk b hbk
end
end Go.Zev

/-
  Drawn regions: one walk of the text's order serves every order.
-/
set_option linter.unusedSimpArgs false
set_option linter.unusedVariables false
namespace Go.Zev
open Go
section
variable {P : Program} {c0 : C0} {nv base : Nat} {ops : Array Oper} {Dp : List Nat}
theorem stepS_split [Env] {j : Nat} {o : Oper} (hk : kindOf o.op < 5) {ids : List Nat} {s s' : S3} (hw : Win base ops.size s.2.2) (hj : j < ops.size) (h3 : kindOf o.op = 3 → ¬ Hid ids (base + j)) (he : stepS P c0 nv Dp ops base j o ids s = some s') :
  ∃ p, rawR P c0 nv Dp ops o (bts ops j) (base + j) ids s.1 s.2.1 s.2.2 = some p ∧ s' = (putT nv o.dst p.1 s.1, putL nv o.dst p.1 s.2.1, p.2) := by
 rw [stepS_eq hk ids hw hj h3] at he
 cases hr : rawR P c0 nv Dp ops o (bts ops j) (base + j) ids s.1 s.2.1 s.2.2 with
 | none => rw [hr] at he; cases he
 | some p => rw [hr] at he; injection he with he; exact ⟨p, rfl, he.symm⟩
theorem stepS_of [Env] {j : Nat} {o : Oper} (hk : kindOf o.op < 5) {ids : List Nat} {s : S3} (hw : Win base ops.size s.2.2) (hj : j < ops.size) (h3 : kindOf o.op = 3 → ¬ Hid ids (base + j)) {p : AV × Heap}
  (he : rawR P c0 nv Dp ops o (bts ops j) (base + j) ids s.1 s.2.1 s.2.2 = some p) : stepS P c0 nv Dp ops base j o ids s = some (putT nv o.dst p.1 s.1, putL nv o.dst p.1 s.2.1, p.2) := by
 rw [stepS_eq hk ids hw hj h3, he]
theorem getD_set {listed : Array Bool} {i m : Nat} {dflt : Bool} (hi : i < listed.size) : (listed.setIfInBounds i true).getD m dflt = if i = m then true else listed.getD m dflt := by
 simp only [Array.getD_eq_getD_getElem?, Array.getElem?_setIfInBounds]
 split <;> simp_all
theorem writes_kind {op : Op} (hw : writes op = true) : kindOf op ≠ 4 := by
 cases op <;> first | (cases hw; done) | skip
 rename_i t x y
 intro h
 cases x <;> first | exact absurd (show (2 : Nat) = 4 from h) (by decide) | exact absurd (show (5 : Nat) = 4 from h) (by decide)
theorem sure_of [Env] (hd : drawOK ops ops.toList (befores ops) 0 = true) {m j : Nat} {z o : Oper} (hz : ops[m]? = some z) (ho : ops[j]? = some o) (h4 : kindOf o.op = 4) (hmj : m ≠ j) (h1 : Nat.testBit (bts ops j) m = false) (h2 : Nat.testBit (bts ops m) j = false) (hw : writes z.op = true) : stayAll ops (readSlots z.op) = true := by
 have go : sure ops z.op = true := by
  rcases Nat.lt_trichotomy m j with h | h | h
  ·exact ((pairOK_iff (pair_ok hd hz ho h h1)).callY (writes_kind hw) h4).2
  ·exact absurd h hmj
  ·exact ((pairOK_iff (pair_ok hd ho hz h h2)).callX h4).2
 unfold sure at go
 rw [hw] at go
 exact go
theorem swap_step [Env] (hnv : nv ≤ 512) (hb : Back ops) (hd : drawOK ops ops.toList (befores ops) 0 = true) {i j : Nat} {x y : Oper} (hx : ops[i]? = some x) (hy : ops[j]? = some y) (hij : i < j) (ht : Nat.testBit (bts ops j) i = false)
  {s s1 s2 : S3} (hw : Win base ops.size s.2.2) {idsx idsy : List Nat} {listed : Array Bool} (hls : listed.size = ops.size)
  (cx : Cov ops nv Dp base listed i x s idsx) (cy : Cov ops nv Dp base (listed.setIfInBounds i true) j y s1 idsy)
  (e1 : stepS P c0 nv Dp ops base i x idsx s = some s1) (e2 : stepS P c0 nv Dp ops base j y idsy s1 = some s2) :
  ∃ s1', stepS P c0 nv Dp ops base j y idsy s = some s1' ∧ Win base ops.size s1'.2.2 ∧ stepS P c0 nv Dp ops base i x idsx s1' = some s2 ∧
   (∀ k, x.dst ≠ some k → slot nv s1.1 s1.2.1 k = slot nv s.1 s.2.1 k) ∧ (∀ k, y.dst ≠ some k → slot nv s1'.1 s1'.2.1 k = slot nv s.1 s.2.1 k) := by
 have pk := pairOK_iff (pair_ok hd hx hy hij ht)
 have hi : i < ops.size := (Array.getElem?_eq_some_iff.1 hx).1
 have hj : j < ops.size := (Array.getElem?_eq_some_iff.1 hy).1
 have htij : Nat.testBit (bts ops i) j = false := by
  cases hq : Nat.testBit (bts ops i) j with
  | false => rfl
  | true => have := bts_lt hb i j x hx hq; omega
 obtain ⟨a1, a2, a3⟩ := Oper.apart_spec pk.xy
 obtain ⟨px, hpx, rfl⟩ := stepS_split pk.kx hw hi cx.own e1
 have hw1 : Win base ops.size px.2 := win_raw pk.kx hw hi hpx
 obtain ⟨py, hpy, rfl⟩ := stepS_split pk.ky (s := (putT nv x.dst px.1 s.1, putL nv x.dst px.1 s.2.1, px.2)) hw1 hj cy.own e2
 dsimp only at hpy
 rw [rawR_put hnv a1 ⟨i, x, hx, rfl⟩] at hpy
 have hs1 : ∀ k, x.dst ≠ some k → slot nv (putT nv x.dst px.1 s.1) (putL nv x.dst px.1 s.2.1) k = slot nv s.1 s.2.1 k := fun k hk => by rw [slot_put hnv, if_neg hk]
 obtain ⟨h1', q1, q2⟩ := swap_raw (P := P) (c0 := c0) (nv := nv) hb hx hy hij ht pk hw cx.own cy.own
  (fun k hk0 b hbk => by
   obtain ⟨hk, h3⟩ := cSlots_mem hk0
   have h4y : kindOf y.op ≠ 4 := by rcases h3 with q | q <;> omega
   have hne : x.dst ≠ some k := by
    by_cases h4 : kindOf x.op = 4
    ·rcases readSlots_kind hk with q | q <;> omega
    ·exact stay_spec (pk.rest h4 h4y) hx (Nat.le_refl _) hk
   exact cy.app i x hx (by rw [getD_set (by omega), if_pos rfl]) hij ht k hk0 b (by rw [hs1 k hne]; exact hbk))
  (fun h4 => cx.call' h4 j y hy (by omega) htij ht)
  (fun h4x h4y => by
   obtain ⟨q0, q1, q2⟩ := cy.call h4y i x hx (by omega) ht htij
   refine ⟨q0, ?_, fun hwr k hk b hbk => q1 hwr k hk b ?_⟩
   ·rcases q2 with hf | q3
    ·exact .inl hf
    ·refine .inr fun k hk => ?_
     rcases q3 k hk with ⟨r, hr, q4⟩ | q4
     ·exact .inl ⟨r, hr, fun b hbk => q4 b (by rw [hs1 r (stay_of (root_stay 6 k r hr) (List.mem_singleton.2 rfl) hx)]; exact hbk)⟩
     ·exact .inr q4
   ·have hst : stayAll ops (readSlots x.op) = true := by
     have := (pk.callY h4x h4y).2
     unfold sure at this
     rw [hwr] at this
     exact this
    rw [hs1 k (stayAll_spec hst hx hk)]; exact hbk) hpx hpy
 have hw1' : Win base ops.size h1' := win_raw (p := (py.1, h1')) pk.ky hw hj q1
 refine ⟨_, stepS_of pk.ky hw hj cy.own q1, hw1', ?_, hs1, fun k hk => by dsimp only; rw [slot_put hnv, if_neg hk]⟩
 have q3 : rawR P c0 nv Dp ops x (bts ops i) (base + i) idsx (putT nv y.dst py.1 s.1) (putL nv y.dst py.1 s.2.1) h1' = some (px.1, py.2) := by rw [rawR_put hnv a3 ⟨j, y, hy, rfl⟩]; exact q2
 have := stepS_of (s := (putT nv y.dst py.1 s.1, putL nv y.dst py.1 s.2.1, h1')) pk.kx hw1' hi cx.own q3
 rw [this]
 dsimp only
 rw [putT_comm hnv px.1 py.1 s.1 (fun k hk => a2 k hk), putL_comm px.1 py.1 s.2.1 (fun k hk => a2 k hk)]
theorem Tm.set_set [Env] (t : Tm) {d : Nat} (v v' : AV) (hd : d < 512) : Tm.set (Tm.set t d v) d v' = Tm.set t d v' := by
 refine Tm.ext fun k hk => ?_
 rw [Tm.get_set _ _ hk hd, Tm.get_set _ _ hk hd, Tm.get_set _ _ hk hd]
 by_cases e : k = d <;> simp [e]
theorem bitsOf_of (acc : List Nat) {e : Edge} {i : Nat} (hbi : bindsAny e = true) (ho : e.on = i ∨ Nat.testBit (nth0 acc e.on) i = true) : ∀ (es : List Edge), e ∈ es → Nat.testBit (bitsOf acc es) i = true
 | [], h => by cases h
 | e' :: es, h => by
  show Nat.testBit (bi (bindsAny e') (Nat.lor (Nat.lor (2 ^ e'.on) (nth0 acc e'.on)) (bitsOf acc es)) (bitsOf acc es)) i = true
  cases h with
  | head =>
   rw [hbi, bi_true]
   show (2 ^ e.on ||| nth0 acc e.on ||| bitsOf acc es).testBit i = true
   rw [Nat.testBit_or, Nat.testBit_or, Bool.or_eq_true, Bool.or_eq_true]
   rcases ho with h1 | h1
   ·exact .inl (.inl (by rw [Nat.testBit_two_pow]; simp [h1]))
   ·exact .inl (.inr h1)
  | tail _ h =>
   have ih := bitsOf_of acc hbi ho es h
   cases hb : bindsAny e' with
   | false => rw [bi_false]; exact ih
   | true =>
    rw [bi_true]
    show (2 ^ e'.on ||| nth0 acc e'.on ||| bitsOf acc es).testBit i = true
    rw [Nat.testBit_or, ih, Bool.or_true]
theorem bts_of [Env] (hb : Back ops) {j i : Nat} {o : Oper} (ho : ops[j]? = some o) {e : Edge} (he : e ∈ o.after) (hbi : bindsAny e = true) (hor : e.on = i ∨ Nat.testBit (bts ops e.on) i = true) : Nat.testBit (bts ops j) i = true := by
 obtain ⟨pre, h1, h2, h3⟩ := befs_at ops.toList [] j o (by simpa using ho)
 simp only [List.length_nil, Nat.zero_add] at h1 h2 h3
 have hbt : bts ops j = bitsOf pre o.after.toList := by unfold bts befores; rw [nth0_eq, h2]; rfl
 rw [hbt]
 refine bitsOf_of pre hbi ?_ _ (by simpa using he)
 rcases hor with h | h
 ·exact .inl h
 ·refine .inr ?_
  have hlt := hb j o ho e he hbi
  unfold bts befores at h
  rw [nth0_eq] at h ⊢
  rw [h1 e.on hlt]
  exact h
def deadAt (nv : Nat) (ops : Array Oper) (s : S3) (d : Nat) (x : AV) : Prop := ∃ o, ops[d]? = some o ∧ kindOf o.op = 4 ∧ dstV nv s.1 s.2.1 o = .pn x
def Gone (nv : Nat) (ops : Array Oper) (s : S3) (j : Nat) : Prop := ∃ d x, deadAt nv ops s d x ∧ Nat.testBit (bts ops j) d = true
def NoDead (nv : Nat) (ops : Array Oper) (s : S3) : Prop := ∀ d x, ¬ deadAt nv ops s d x
def CalmBy (ops : Array Oper) (d : Nat) : Prop := ∀ (i : Nat) (o : Oper), ops[i]? = some o → i ≠ d → Nat.testBit (bts ops d) i = false → Nat.testBit (bts ops i) d = false → calm o.op = true
def FPs (nv : Nat) (ops : Array Oper) (D : Tm → AV → Heap → Prop) (listed : Array Bool) (s : S3) : Prop := ∀ d x, deadAt nv ops s d x → listed.getD d false = true ∧ CalmBy ops d ∧ D (clrT nv s.1 ops.toList) x s.2.2.shut
def OwnC (ops : Array Oper) : Prop := ∀ (d : Nat) (o : Oper), ops[d]? = some o → kindOf o.op = 4 → ∃ k, o.dst = some k ∧ ∀ (i : Nat) (x : Oper), ops[i]? = some x → i ≠ d → x.dst ≠ some k
theorem dstV_put (hnv : nv ≤ 512) {o : Oper} {k : Nat} (ho : o.dst = some k) {d : Option Nat} (hd : d ≠ some k) (v : AV) (t : Tm) (l : Loc) : dstV nv (putT nv d v t) (putL nv d v l) o = dstV nv t l o := by
 unfold dstV
 rw [ho]
 show slot nv _ _ k = slot nv _ _ k
 rw [slot_put hnv, if_neg hd]
theorem dead_put [Env] (hnv : nv ≤ 512) (hown : OwnC ops) {i d : Nat} {x : Oper} (hx : ops[i]? = some x) (hid : i ≠ d) {v y : AV} {s : S3} {h : Heap} : deadAt nv ops (putT nv x.dst v s.1, putL nv x.dst v s.2.1, h) d y ↔ deadAt nv ops s d y := by
 constructor
 ·rintro ⟨o, h1, h2, h3⟩
  obtain ⟨k, hk, hu⟩ := hown d o h1 h2
  exact ⟨o, h1, h2, by rw [← h3]; exact (dstV_put hnv hk (hu i x hx hid) v s.1 s.2.1).symm⟩
 ·rintro ⟨o, h1, h2, h3⟩
  obtain ⟨k, hk, hu⟩ := hown d o h1 h2
  exact ⟨o, h1, h2, by rw [← h3]; exact dstV_put hnv hk (hu i x hx hid) v s.1 s.2.1⟩
theorem clrT_go [Env] (d : Option Nat) (v : AV) (t : Tm) (hnv : nv ≤ 512) : ∀ (l : List Oper), (∃ o ∈ l, o.dst = d) → clrT nv (putT nv d v t) l = clrT nv t l
 | [], h => by obtain ⟨o, h, _⟩ := h; cases h
 | o :: l, h => by
  have e : ∀ t, clrT nv t (o :: l) = putT nv o.dst .un (clrT nv t l) := fun t => by
   unfold putT
   cases hd : o.dst with
   | none => show Option.rec (motive := fun _ => Tm) (clrT nv t l) (fun d => bi (Nat.blt d nv) (Tm.set (clrT nv t l) d .un) (clrT nv t l)) o.dst = _; rw [hd]
   | some d => show Option.rec (motive := fun _ => Tm) (clrT nv t l) (fun d => bi (Nat.blt d nv) (Tm.set (clrT nv t l) d .un) (clrT nv t l)) o.dst = _; rw [hd]
  rw [e, e]
  by_cases hm : ∃ o' ∈ l, o'.dst = d
  ·rw [clrT_go d v t hnv l hm]
  ·obtain ⟨o', h1, h2⟩ := h
   have ho : o.dst = d := by
    rcases List.mem_cons.1 h1 with q | q
    ·rw [← q]; exact h2
    ·exact absurd ⟨o', q, h2⟩ hm
   subst ho
   have hcom : ∀ (l' : List Oper), (¬ ∃ o' ∈ l', o'.dst = o.dst) → clrT nv (putT nv o.dst v t) l' = putT nv o.dst v (clrT nv t l') := by
    intro l'
    induction l' with
    | nil => intro _; rfl
    | cons q l' ih =>
     intro hq
     have e' : ∀ t, clrT nv t (q :: l') = putT nv q.dst .un (clrT nv t l') := fun t => by
      unfold putT
      cases hd : q.dst with
      | none => show Option.rec (motive := fun _ => Tm) (clrT nv t l') (fun d => bi (Nat.blt d nv) (Tm.set (clrT nv t l') d .un) (clrT nv t l')) q.dst = _; rw [hd]
      | some d => show Option.rec (motive := fun _ => Tm) (clrT nv t l') (fun d => bi (Nat.blt d nv) (Tm.set (clrT nv t l') d .un) (clrT nv t l')) q.dst = _; rw [hd]
     rw [e', e', ih (fun ⟨z, h1, h2⟩ => hq ⟨z, List.mem_cons_of_mem _ h1, h2⟩)]
     exact putT_comm hnv v .un _ fun k hk hk' => hq ⟨q, List.mem_cons_self .., by rw [hk, hk']⟩
   rw [hcom l hm]
   generalize clrT nv t l = t'
   cases o.dst with
   | none => rfl
   | some d =>
    show bi (Nat.blt d nv) (Tm.set (bi (Nat.blt d nv) (Tm.set t' d v) t') d .un) (bi (Nat.blt d nv) (Tm.set t' d v) t') = bi (Nat.blt d nv) (Tm.set t' d .un) t'
    cases hb : Nat.blt d nv with
    | false => rfl
    | true => rw [bi_true, bi_true, bi_true]; exact Tm.set_set t' v .un (by have := blt_iff.1 hb; omega)
theorem clrT_put [Env] (hnv : nv ≤ 512) {i : Nat} {x : Oper} (hx : ops[i]? = some x) (v : AV) (t : Tm) : clrT nv (putT nv x.dst v t) ops.toList = clrT nv t ops.toList :=
 clrT_go x.dst v t hnv ops.toList ⟨x, List.mem_of_getElem? (i := i) (by simpa using hx), rfl⟩
theorem calm_heap [Env] {j : Nat} {o : Oper} (hc : calm o.op = true) {ids : List Nat} {t : Tm} {l : Loc} {h : Heap} {p : AV × Heap} (he : rawR P c0 nv Dp ops o (bts ops j) (base + j) ids t l h = some p) : p.2.shut = h.shut := by
 have look : ∀ h : Heap, (h.look 0).shut = h.shut := fun h => Heap.eq (by simp) (by simp) (by simp) (by simp) fun k => by simp
 have hk : kindOf o.op = 0 ∨ (kindOf o.op = 2 ∧ writes o.op = false) := by
  unfold calm at hc
  rw [Bool.or_eq_true, Bool.and_eq_true] at hc
  rcases hc with q | ⟨q1, q2⟩
  ·exact .inl (beq_iff.1 q)
  ·exact .inr ⟨beq_iff.1 q1, by simpa using q2⟩
 have fin : ∀ ids', effR P o.op (opnd nv t l) (bts ops j) (base + j) ids' h = some p → p.2.shut = h.shut := by
  intro ids' hq
  obtain ⟨e, h1, _, h3⟩ := effR_some (v := p.1) (h' := p.2) hq
  have ok := effV_ok (by rcases hk with q | q <;> omega) h1
  have k0 : e.kill = none := by
   cases hq : e.kill with
   | none => rfl
   | some q =>
    obtain ⟨z, _, _⟩ := ok.kill q.1 q.2 hq
    rcases z with z | ⟨z, zw⟩
    ·rcases hk with q | q <;> omega
    ·rcases hk with q | ⟨_, q⟩
     ·omega
     ·rw [zw] at q; cases q
  have n0 : e.nw = none := by
   cases hq : e.nw with
   | none => rfl
   | some q =>
    have := ok.nw (by rw [hq]; simp)
    rcases hk with q | q <;> omega
  rw [h3]
  unfold appE
  rw [k0, n0]
  exact look h
 unfold rawR at he
 cases hg : gd ops nv Dp t l o with
 | none => rw [hg] at he; cases he
 | some q =>
  rw [hg] at he
  cases q with
  | false =>
   have he : some ((.tup [], h.look 0) : AV × Heap) = some p := he
   injection he with he
   subst he
   exact look h
  | true =>
   have he : runR P c0 o.op (opnd nv t l) (bts ops j) (base + j) ids h = some p := he
   rw [runR_lt (by rcases hk with q | q <;> omega) (fun h3 => by rcases hk with q | q <;> omega)] at he
   exact fin _ he
def evAny (P : Program) (c0 : C0) (nv : Nat) (Dp : List Nat) (ops : Array Oper) (base : Nat) (F : S3 → Prop) (D : Tm → AV → Heap → Prop) : Nat → Array Bool → S3 → Prop
 | 0, listed, s => Win base ops.size s.2.2 ∧ FPs nv ops D listed s ∧ (NoDead nv ops s → F s) ∧ ∀ j ∈ Region.ready .any ops listed, Gone nv ops s j
 | fuel + 1, listed, s => Win base ops.size s.2.2 ∧ FPs nv ops D listed s ∧ (Region.ready .any ops listed = [] → NoDead nv ops s → F s) ∧
  ∀ j ∈ Region.ready .any ops listed, ∀ o, ops[j]? = some o → Gone nv ops s j ∨ ∃ ids s', Cov ops nv Dp base listed j o s ids ∧ stepS P c0 nv Dp ops base j o ids s = some s' ∧ evAny P c0 nv Dp ops base F D fuel (listed.setIfInBounds j true) s'
theorem ev_fps {F : S3 → Prop} {D : Tm → AV → Heap → Prop} {fuel : Nat} {listed : Array Bool} {s : S3} (h : evAny P c0 nv Dp ops base F D fuel listed s) : FPs nv ops D listed s := by
 cases fuel with
 | zero => exact h.2.1
 | succ fuel => exact h.2.1
theorem ev_mono {F : S3 → Prop} {D : Tm → AV → Heap → Prop} : ∀ {fuel : Nat} {listed : Array Bool} {s : S3}, evAny P c0 nv Dp ops base F D fuel listed s → evAny P c0 nv Dp ops base F D (fuel + 1) listed s
 | 0, listed, s, ⟨h1, h2, h3, h4⟩ => ⟨h1, h2, fun _ => h3, fun j hj o _ => .inl (h4 j hj)⟩
 | fuel + 1, listed, s, ⟨h1, h2, h3, h4⟩ => ⟨h1, h2, h3, fun j hj o ho => by
  rcases h4 j hj o ho with q | ⟨ids, s', q1, q2, q3⟩
  ·exact .inl q
  ·exact .inr ⟨ids, s', q1, q2, ev_mono q3⟩⟩
theorem ready_after {listed : Array Bool} {j : Nat} {o : Oper} (ho : ops[j]? = some o) (hr : j ∈ Region.ready .any ops listed) : listed.getD j true = false ∧ ∀ e ∈ o.after, bindsAny e = true → listed.getD e.on false = true := by
 obtain ⟨h1, o', h2, h3⟩ := mem_ready.1 hr
 rw [ho] at h2; injection h2 with h2; subst h2
 exact ⟨h1, fun e he hb => h3 e he (by rw [bindsAny_eq]; exact hb)⟩
theorem closed_set [Env] {listed : Array Bool} (hls : listed.size = ops.size) (hc : Closed ops listed) {j : Nat} {o : Oper} (ho : ops[j]? = some o) (hr : ∀ e ∈ o.after, bindsAny e = true → listed.getD e.on false = true) : Closed ops (listed.setIfInBounds j true) := by
 have hj : j < listed.size := by rw [hls]; exact (Array.getElem?_eq_some_iff.1 ho).1
 have up : ∀ m, listed.getD m false = true → (listed.setIfInBounds j true).getD m false = true := fun m hm => by rw [getD_set hj]; split; rfl; exact hm
 intro m o' ho' hm e he hb
 rw [getD_set hj] at hm
 by_cases hjm : j = m
 ·subst hjm
  rw [ho] at ho'; injection ho' with ho'; subst ho'
  exact up _ (hr e he hb)
 ·rw [if_neg hjm] at hm
  exact up _ (hc m o' ho' hm e he hb)
theorem ev_first [Env] (hnv : nv ≤ 512) (hb : Back ops) (hd : drawOK ops ops.toList (befores ops) 0 = true) (hown : OwnC ops) {F : S3 → Prop} {D : Tm → AV → Heap → Prop} {i : Nat} {x : Oper} (hx : ops[i]? = some x) :
  ∀ (fuel : Nat) (listed : Array Bool) (s s1 : S3) (idsx : List Nat), listed.size = ops.size → Closed ops listed → FPs nv ops D listed s → ¬ Gone nv ops s i → (∀ d y, d ≠ i → deadAt nv ops s1 d y → deadAt nv ops s d y) →
   (∀ m, m < i → listed.getD m false = true ∨ Gone nv ops s m) → listed.getD i true = false → (∀ e ∈ x.after, bindsAny e = true → listed.getD e.on false = true) →
   Win base ops.size s.2.2 → Cov ops nv Dp base listed i x s idsx → stepS P c0 nv Dp ops base i x idsx s = some s1 → evAny P c0 nv Dp ops base F D fuel (listed.setIfInBounds i true) s1 → evAny P c0 nv Dp ops base F D (fuel + 1) listed s := by
 have hi : i < ops.size := (Array.getElem?_eq_some_iff.1 hx).1
 intro fuel
 induction fuel with
 | zero =>
  intro listed s s1 idsx hls hc hfp hng hds hpre hun haf hw cx e1 H
  have hri : i ∈ Region.ready .any ops listed := mem_ready.2 ⟨hun, x, hx, fun e he hbi => haf e he (by rw [← bindsAny_eq]; exact hbi)⟩
  refine ⟨hw, hfp, fun h => (by rw [h] at hri; cases hri), fun j hj o ho => ?_⟩
  by_cases hji : j = i
  ·subst hji
   rw [hx] at ho; injection ho with ho; subst ho
   exact .inr ⟨idsx, s1, cx, e1, H⟩
  ·obtain ⟨d, y, h1, h2⟩ := H.2.2.2 j (ready_mono hj hji)
   by_cases hdi : d = i
   ·subst hdi
    obtain ⟨_, hjaf⟩ := ready_after ho hj
    have := bts_listed hb hc j d o ho hjaf h2
    rw [Array.getD_eq_getD_getElem?] at hun this
    rw [Array.getElem?_eq_getElem (by omega)] at hun this
    simp only [Option.getD_some] at hun this
    rw [hun] at this; cases this
   ·exact .inl ⟨d, y, hds d y hdi h1, h2⟩
 | succ fuel ih =>
  intro listed s s1 idsx hls hc hfp hng hds hpre hun haf hw cx e1 H
  have hri : i ∈ Region.ready .any ops listed := mem_ready.2 ⟨hun, x, hx, fun e he hbi => haf e he (by rw [← bindsAny_eq]; exact hbi)⟩
  refine ⟨hw, hfp, fun h => (by rw [h] at hri; cases hri), fun j hj o ho => ?_⟩
  by_cases hji : j = i
  ·subst hji
   rw [hx] at ho; injection ho with ho; subst ho
   exact .inr ⟨idsx, s1, cx, e1, H⟩
  ·by_cases hgj : Gone nv ops s j
   ·exact .inl hgj
   refine .inr ?_
   obtain ⟨hjun, hjaf⟩ := ready_after ho hj
   have hjs : j < ops.size := (Array.getElem?_eq_some_iff.1 ho).1
   have hij : i < j := by
    rcases Nat.lt_trichotomy i j with h | h | h
    ·exact h
    ·exact absurd h.symm hji
    ·have := (hpre j h).resolve_right hgj
     rw [Array.getD_eq_getD_getElem?] at hjun this
     rw [Array.getElem?_eq_getElem (by omega)] at hjun this
     simp only [Option.getD_some] at hjun this
     rw [hjun] at this; cases this
   have hunf : listed.getD i false = false := by
    rw [Array.getD_eq_getD_getElem?] at hun ⊢
    rw [Array.getElem?_eq_getElem (by omega)] at hun ⊢
    exact hun
   have ht : Nat.testBit (bts ops j) i = false := by
    cases hq : Nat.testBit (bts ops j) i with
    | false => rfl
    | true =>
     have := bts_listed hb hc j i o ho hjaf hq
     rw [hunf] at this; cases this
   obtain ⟨hw1, _, _, hall⟩ := H
   have hst1 := hall j (ready_mono hj hji) o ho
   have hngj1 : ¬ Gone nv ops s1 j := by
    rintro ⟨d, y, h1, h2⟩
    by_cases hdi : d = i
    ·subst hdi; rw [ht] at h2; cases h2
    ·exact hgj ⟨d, y, hds d y hdi h1, h2⟩
   obtain ⟨idsy, s2, cy, e2, H2⟩ := hst1.resolve_left hngj1
   obtain ⟨s1', e3, hw1', e4, hsx, hsy⟩ := swap_step (P := P) (c0 := c0) hnv hb hd hx ho hij ht hw hls cx cy e1 e2
   have pk := pairOK_iff (pair_ok hd hx ho hij ht)
   have cy' : Cov ops nv Dp base listed j o s idsy := by
    refine ⟨cy.own, fun m z hz hm hmj hmt k hk0 b hbk => ?_, fun h4 m z hz hmj hmt hjm => ?_⟩
    ·obtain ⟨hk, h3⟩ := cSlots_mem hk0
     have ho4 : kindOf o.op ≠ 4 := by rcases h3 with q | q <;> omega
     have hmi : i ≠ m := fun e => by rw [← e, hunf] at hm; cases hm
     refine cy.app m z hz (by rw [getD_set (by omega), if_neg hmi]; exact hm) hmj hmt k hk0 b ?_
     rw [hsx k ?_]
     ·exact hbk
     ·
      intro hxk
      rcases Nat.lt_trichotomy m i with h | h | h
      ·have pkm := pairOK_iff (pair_ok hd hz ho hmj hmt)
       by_cases h4m : kindOf z.op = 4
       ·rcases readSlots_kind hk with q | q <;> omega
       ·exact stay_spec (pkm.rest h4m ho4) hx (by omega) hk hxk
      ·exact hmi h.symm
      ·have htm : Nat.testBit (bts ops m) i = false := by
        cases hq : Nat.testBit (bts ops m) i with
        | false => rfl
        | true =>
         have := bts_listed hb hc m i z hz (hc m z hz hm) hq
         rw [hunf] at this; cases this
       have pkm := pairOK_iff (pair_ok hd hx hz h htm)
       exact (Oper.apart_spec pkm.xy).1 k hxk (looks_op (reads_op hk))
    ·obtain ⟨q0, q1, q2⟩ := cy.call h4 m z hz hmj hmt hjm
     refine ⟨q0, fun hwr k hk b hbk => q1 hwr k hk b ?_, ?_⟩
     ·rw [hsx k (stayAll_spec (sure_of hd hz ho h4 hmj hmt hjm hwr) hx hk)]
      exact hbk
     ·rcases q2 with hf | q3
      ·exact .inl hf
      ·refine .inr fun k hk => ?_
       rcases q3 k hk with ⟨r, hr, q4⟩ | q4
       ·exact .inl ⟨r, hr, fun b hbk => q4 b (by rw [hsx r (stay_of (root_stay 6 k r hr) (List.mem_singleton.2 rfl) hx)]; exact hbk)⟩
       ·exact .inr q4
   have cx' : Cov ops nv Dp base (listed.setIfInBounds j true) i x s1' idsx := by
    refine ⟨cx.own, fun m z hz hm hmi hmt k hk0 b hbk => ?_, fun h4 m z hz hmi hmt him => ?_⟩
    ·obtain ⟨hk, h3⟩ := cSlots_mem hk0
     have hx4 : kindOf x.op ≠ 4 := by rcases h3 with q | q <;> omega
     have hjm : j ≠ m := by omega
     rw [getD_set (by omega), if_neg hjm] at hm
     refine cx.app m z hz hm hmi hmt k hk0 b ?_
     rw [← hsy k ?_]
     ·exact hbk
     ·have pkm := pairOK_iff (pair_ok hd hz hx hmi hmt)
      by_cases h4m : kindOf z.op = 4
      ·rcases readSlots_kind hk with q | q <;> omega
      ·exact stay_spec (pkm.rest h4m hx4) ho (by omega) hk
    ·obtain ⟨q0, q1, q2⟩ := cx.call h4 m z hz hmi hmt him
     refine ⟨q0, fun hwr k hk b hbk => q1 hwr k hk b ?_, ?_⟩
     ·rw [← hsy k (stayAll_spec (sure_of hd hz hx h4 hmi hmt him hwr) ho hk)]
      exact hbk
     ·rcases q2 with hf | q3
      ·exact .inl hf
      ·refine .inr fun k hk => ?_
       rcases q3 k hk with ⟨r, hr, q4⟩ | q4
       ·exact .inl ⟨r, hr, fun b hbk => q4 b (by rw [← hsy r (stay_of (root_stay 6 k r hr) (List.mem_singleton.2 rfl) ho)]; exact hbk)⟩
       ·exact .inr q4
   refine ⟨idsy, s1', cy', e3, ?_⟩
   obtain ⟨py, hpy, q3⟩ := stepS_split pk.ky hw hjs cy'.own e3
   obtain ⟨px, hpx, q4⟩ := stepS_split pk.kx hw1' hi cx'.own e4
   have htij : Nat.testBit (bts ops i) j = false := by
    cases hq : Nat.testBit (bts ops i) j with
    | false => rfl
    | true => have := bts_lt hb i j x hx hq; omega
   have hne : ∀ d, listed.getD d false = true → d ≠ j := fun d h1 e => by
    subst e
    rw [Array.getD_eq_getD_getElem?] at hjun h1
    rw [Array.getElem?_eq_getElem (by omega)] at hjun h1
    simp only [Option.getD_some] at hjun h1
    rw [hjun] at h1; cases h1
   have hfp1 : FPs nv ops D (listed.setIfInBounds j true) s1' := by
    intro d y hdy
    by_cases hdj : d = j
    ·subst hdj
     have h2 : deadAt nv ops s2 d y := by rw [q4]; exact (dead_put hnv hown hx (by omega)).2 hdy
     obtain ⟨_, g2, g3⟩ := ev_fps H2 d y h2
     refine ⟨by rw [getD_set (by omega), if_pos rfl], g2, ?_⟩
     rw [q4] at g3
     dsimp only at g3
     rw [clrT_put hnv hx, calm_heap (g2 i x hx (by omega) ht htij) hpx] at g3
     exact g3
    ·have h2 : deadAt nv ops s d y := by rw [q3] at hdy; exact (dead_put hnv hown ho (fun e => hdj e.symm)).1 hdy
     obtain ⟨g1, g2, g3⟩ := hfp d y h2
     have ⟨od, hod, _, _⟩ := h2
     have hbd : Nat.testBit (bts ops d) j = false := by
      cases hq : Nat.testBit (bts ops d) j with
      | false => rfl
      | true => exact absurd rfl (hne j (bts_listed hb hc d j od hod (hc d od hod g1) hq))
     have hbj : Nat.testBit (bts ops j) d = false := by
      cases hq : Nat.testBit (bts ops j) d with
      | false => rfl
      | true => exact absurd ⟨d, y, h2, hq⟩ hgj
     refine ⟨by rw [getD_set (by omega)]; split; rfl; exact g1, g2, ?_⟩
     rw [q3]
     dsimp only
     rw [clrT_put hnv ho, calm_heap (g2 j o ho (fun e => hdj e.symm) hbd hbj) hpy]
     exact g3
   have back1 : ∀ d y, d ≠ j → deadAt nv ops s1' d y → deadAt nv ops s d y := fun d y hdj h => by rw [q3] at h; exact (dead_put hnv hown ho (fun e => hdj e.symm)).1 h
   refine ih (listed.setIfInBounds j true) s1' s2 idsx (by rw [Array.size_setIfInBounds]; exact hls) (closed_set hls hc ho hjaf) hfp1
    (fun ⟨d, y, h1, h2⟩ => by
     by_cases hdj : d = j
     ·subst hdj; rw [htij] at h2; cases h2
     ·exact hng ⟨d, y, back1 d y hdj h1, h2⟩)
    (fun d y hdi h => by rw [q4] at h; exact (dead_put hnv hown hx (fun e => hdi e.symm)).1 h)
    (fun m hm => by
     rcases hpre m hm with q | ⟨d, y, h1, h2⟩
     ·exact .inl (by rw [getD_set (by omega)]; split; rfl; exact q)
     ·refine .inr ⟨d, y, ?_, h2⟩
      rw [q3]
      exact (dead_put hnv hown ho (fun e => by subst e; exact hne _ (hfp j y h1).1 rfl)).2 h1)
    (by rw [getD_set (by omega), if_neg hji]; exact hun) (fun e he hbi => by rw [getD_set (by omega)]; split; rfl; exact haf e he hbi) hw1' cx' e4 ?_
   rw [Array.setIfInBounds_comm _ _ hji]
   exact H2
end
end Go.Zev
