/-
  NARROWER THAN 'FOR EVERY INPUT', by the rows' own cells (each row's printed sentence says how): BindScopes: laid · BindReturns: laid · BindSupers: laid.
  DERIVED. THE GIVEN ROWS OF THIS SEAT. 3 by the template 'for every input the law returns true; each argument reads behind the call as it read before'; 0 by the template 'total and deterministic' (their statements: YteibcpcfpdiphaaGreatDoorTotals.lean).
  GIVEN WITH THE SEED: the statements are not yours to turn. If you find one false, say at which input.
  Laid BY PROGRAM, IN A SANDBOX (cutbox-rows.mjs): the forced cells as the released guide's own fill.sh prints them over the translation a4134a39b8d8f12a… (all of the seat's roots in one cut). By AI agents, Wed Nov 11 2026. No macro, syntax, notation, axiom, sorry.
-/
import Derived.Test.YteibcpcfpdiphaaGreatDoorChecked
import GoSem.PinnedTables
import GoSem.Claim
import GoSem.ClaimJoined
import GoSem.ClaimMapViews
import Derived.JoinedTies
import Derived.KernelRfl
namespace Go.Proofs.YteibcpcfpdiphaaGreatDoor
/- THE CELL 'sum', in the pinned program and in every row, IS THE sha256 OF THE DUMP (.gsa) THAT YteibcpcfpdiphaaGreatDoorProg.lean LOADS. Nothing in Lean hashes anything: it is a label: what it is worth is what the hold of that sum in a sandbox is worth. -/
noncomputable def Tryz.pinned : Pinned := { name := "yteibcpcfpdiphaagreatdoor", sum := "a4134a39b8d8f12addd68e2188f9bde5d134a0dfb27e9fc87bc0535f36265d8b", checked := Tryz.checked }
namespace Rows
def none {H : Type} : Left H := { results := [], args := [] }

/- WHAT THE LISTED PACKAGE-LEVEL VARIABLES READ AS WHEN THE CALL BEGINS. Each datum BY PROGRAM (the guide's laid-datum.mjs) off the statement by which the dump's own 'gosem.cut.vars' lays the variable. In a bare row this is a premise. The card (YteibcpcfpdiphaaGreatDoorCards.lean) ties it to the program's text. -/
def laid_unicode_utf8_acceptRanges {H : Type} : DataW H := .agg [.agg [.lit (.int .u8 128), .lit (.int .u8 191)], .agg [.lit (.int .u8 160), .lit (.int .u8 191)], .agg [.lit (.int .u8 128), .lit (.int .u8 159)], .agg [.lit (.int .u8 144), .lit (.int .u8 191)], .agg [.lit (.int .u8 128), .lit (.int .u8 143)], .agg [.lit (.int .u8 0), .lit (.int .u8 0)], .agg [.lit (.int .u8 0), .lit (.int .u8 0)], .agg [.lit (.int .u8 0), .lit (.int .u8 0)], .agg [.lit (.int .u8 0), .lit (.int .u8 0)], .agg [.lit (.int .u8 0), .lit (.int .u8 0)], .agg [.lit (.int .u8 0), .lit (.int .u8 0)], .agg [.lit (.int .u8 0), .lit (.int .u8 0)], .agg [.lit (.int .u8 0), .lit (.int .u8 0)], .agg [.lit (.int .u8 0), .lit (.int .u8 0)], .agg [.lit (.int .u8 0), .lit (.int .u8 0)], .agg [.lit (.int .u8 0), .lit (.int .u8 0)]]
/-- One of Go's own tables, pinned by name: the form's constant. -/
def laid_unicode_utf8_first : DataW Unit := Go.Pinned.utf8First

/-- 'changelinglaw12.BindScopes': WHATEVER THE INPUT: true; the input reads as it did. -/
def bindScopesSpec : ChangeSpec := { name := "bindScopes", fn := fun _ => fun
  | [d] => { results := [.lit (.bool true)], args := [d] }
  | _ => none }
def bindScopesRow : OpenClaim := { program := "yteibcpcfpdiphaagreatdoor", sum := "a4134a39b8d8f12addd68e2188f9bde5d134a0dfb27e9fc87bc0535f36265d8b", func := "changeling/changelinglaw12.BindScopes", spec := "bindScopes", unfollowed := true, recurses := true, named := ["unicode/utf8.first", "unicode/utf8.acceptRanges"], apart := false, laid := [("unicode/utf8.acceptRanges", laid_unicode_utf8_acceptRanges), ("unicode/utf8.first", laid_unicode_utf8_first)] }
def BindScopesSaid : Prop := bindScopesRow.holds Tryz.pinned (OpenSpec.ofChange bindScopesSpec)

/-- ITS FALSE NEIGHBOUR: 'it returns false'. Refute it at one input. -/
def bindScopesWrong : ChangeSpec := { name := "bindScopes", fn := fun _ => fun
  | [d] => { results := [.lit (.bool false)], args := [d] }
  | _ => none }
def BindScopesWrongFalsely : Prop := bindScopesRow.holds Tryz.pinned (OpenSpec.ofChange bindScopesWrong)

/-- 'changelinglaw12.BindReturns': WHATEVER THE INPUT: true; the input reads as it did. -/
def bindReturnsSpec : ChangeSpec := { name := "bindReturns", fn := fun _ => fun
  | [d] => { results := [.lit (.bool true)], args := [d] }
  | _ => none }
def bindReturnsRow : OpenClaim := { program := "yteibcpcfpdiphaagreatdoor", sum := "a4134a39b8d8f12addd68e2188f9bde5d134a0dfb27e9fc87bc0535f36265d8b", func := "changeling/changelinglaw12.BindReturns", spec := "bindReturns", unfollowed := true, recurses := true, named := ["unicode/utf8.first", "unicode/utf8.acceptRanges"], apart := false, laid := [("unicode/utf8.acceptRanges", laid_unicode_utf8_acceptRanges), ("unicode/utf8.first", laid_unicode_utf8_first)] }
def BindReturnsSaid : Prop := bindReturnsRow.holds Tryz.pinned (OpenSpec.ofChange bindReturnsSpec)

/-- ITS FALSE NEIGHBOUR: 'it returns false'. Refute it at one input. -/
def bindReturnsWrong : ChangeSpec := { name := "bindReturns", fn := fun _ => fun
  | [d] => { results := [.lit (.bool false)], args := [d] }
  | _ => none }
def BindReturnsWrongFalsely : Prop := bindReturnsRow.holds Tryz.pinned (OpenSpec.ofChange bindReturnsWrong)

/-- 'changelinglaw12.BindSupers': WHATEVER THE INPUT: true; the input reads as it did. -/
def bindSupersSpec : ChangeSpec := { name := "bindSupers", fn := fun _ => fun
  | [d1, d2] => { results := [.lit (.bool true)], args := [d1, d2] }
  | _ => none }
def bindSupersRow : OpenClaim := { program := "yteibcpcfpdiphaagreatdoor", sum := "a4134a39b8d8f12addd68e2188f9bde5d134a0dfb27e9fc87bc0535f36265d8b", func := "changeling/changelinglaw12.BindSupers", spec := "bindSupers", unfollowed := true, recurses := true, named := ["unicode/utf8.first", "unicode/utf8.acceptRanges"], apart := false, laid := [("unicode/utf8.acceptRanges", laid_unicode_utf8_acceptRanges), ("unicode/utf8.first", laid_unicode_utf8_first)] }
def BindSupersSaid : Prop := bindSupersRow.holds Tryz.pinned (OpenSpec.ofChange bindSupersSpec)

/-- ITS FALSE NEIGHBOUR: 'it returns false'. Refute it at one input. -/
def bindSupersWrong : ChangeSpec := { name := "bindSupers", fn := fun _ => fun
  | [d1, d2] => { results := [.lit (.bool false)], args := [d1, d2] }
  | _ => none }
def BindSupersWrongFalsely : Prop := bindSupersRow.holds Tryz.pinned (OpenSpec.ofChange bindSupersWrong)

/- THE SECOND FORM. 'bulk': how many values and letters a reading holds, each counted each time it is reached (what is shared counts as often as it is met; a slice's spare places count too). A statement '..UptoSaid' is the law's where the arguments, and the package variables that the reading takes, are together of bulk at most 1048576: NARROWER than '..Said'. Prove '..Said' where nothing that the law and all that it calls make is longer than what came in: it says more and counts as full. Else prove '..UptoSaid'. A law counts once. -/
mutual
def uptoBulk {H : Type} : DataW H → Nat
  | .lit (.string bytes) => bytes.length + 1
  | .lit _ => 1
  | .nil => 1
  | .ptr d => uptoBulk d + 1
  | .slice elems spare => uptoBulkAll elems + uptoBulkAll spare + 1
  | .agg parts => uptoBulkAll parts + 1
  | .iface _ d => uptoBulk d + 1
  | .map entries => uptoBulkEntries entries + 1
  | .held _ => 1
def uptoBulkAll {H : Type} : List (DataW H) → Nat
  | [] => 0
  | d :: r => uptoBulk d + uptoBulkAll r
def uptoBulkEntries {H : Type} : List (Lit × DataW H) → Nat
  | [] => 0
  | x :: r => uptoBulkEntry x + uptoBulkEntries r
def uptoBulkEntry {H : Type} : Lit × DataW H → Nat
  | (.string bytes, d) => bytes.length + uptoBulk d + 1
  | (_, d) => uptoBulk d + 1
 end
def uptoSmall : (H : Type) → List (DataW H) → Bool := fun _ ds => decide (uptoBulkAll ds ≤ 1048576)
def OpenSpec.upto (s : _root_.Go.ChangeSpec) : _root_.Go.OpenSpec := { _root_.Go.OpenSpec.ofChange s with cond := some uptoSmall }

/-- 'changelinglaw12.BindScopes', WHERE WHAT IT READS IS OF BULK AT MOST 1048576: true; the input reads as it did. -/
def bindScopesUptoRow : OpenClaim := { program := "yteibcpcfpdiphaagreatdoor", sum := "a4134a39b8d8f12addd68e2188f9bde5d134a0dfb27e9fc87bc0535f36265d8b", func := "changeling/changelinglaw12.BindScopes", spec := "bindScopes", unfollowed := true, recurses := true, named := ["unicode/utf8.first", "unicode/utf8.acceptRanges"], apart := false, laid := [("unicode/utf8.acceptRanges", laid_unicode_utf8_acceptRanges), ("unicode/utf8.first", laid_unicode_utf8_first)], narrowed := true }
def BindScopesUptoSaid : Prop := bindScopesUptoRow.holds Tryz.pinned (OpenSpec.upto bindScopesSpec)

/-- 'changelinglaw12.BindReturns', WHERE WHAT IT READS IS OF BULK AT MOST 1048576: true; the input reads as it did. -/
def bindReturnsUptoRow : OpenClaim := { program := "yteibcpcfpdiphaagreatdoor", sum := "a4134a39b8d8f12addd68e2188f9bde5d134a0dfb27e9fc87bc0535f36265d8b", func := "changeling/changelinglaw12.BindReturns", spec := "bindReturns", unfollowed := true, recurses := true, named := ["unicode/utf8.first", "unicode/utf8.acceptRanges"], apart := false, laid := [("unicode/utf8.acceptRanges", laid_unicode_utf8_acceptRanges), ("unicode/utf8.first", laid_unicode_utf8_first)], narrowed := true }
def BindReturnsUptoSaid : Prop := bindReturnsUptoRow.holds Tryz.pinned (OpenSpec.upto bindReturnsSpec)

/-- 'changelinglaw12.BindSupers', WHERE WHAT IT READS IS OF BULK AT MOST 1048576: true; the input reads as it did. -/
def bindSupersUptoRow : OpenClaim := { program := "yteibcpcfpdiphaagreatdoor", sum := "a4134a39b8d8f12addd68e2188f9bde5d134a0dfb27e9fc87bc0535f36265d8b", func := "changeling/changelinglaw12.BindSupers", spec := "bindSupers", unfollowed := true, recurses := true, named := ["unicode/utf8.first", "unicode/utf8.acceptRanges"], apart := false, laid := [("unicode/utf8.acceptRanges", laid_unicode_utf8_acceptRanges), ("unicode/utf8.first", laid_unicode_utf8_first)], narrowed := true }
def BindSupersUptoSaid : Prop := bindSupersUptoRow.holds Tryz.pinned (OpenSpec.upto bindSupersSpec)

end Rows
end Go.Proofs.YteibcpcfpdiphaaGreatDoor
