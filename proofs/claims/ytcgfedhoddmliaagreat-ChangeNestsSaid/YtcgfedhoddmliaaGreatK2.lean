/-
  Printed by facts.py: closed calls and their answers.
-/
import Derived.Test.YtcgfedhoddmliaaGreatK1
set_option maxRecDepth 20000
namespace Go.Zev.Cn
open Go Go.Zev Go.Proofs
theorem fk {f : FuncId} {args : List AV} {v : AV} (m : Nat) {l : List Known} (ok : AllKnown Tryz.prog l) (ho : own (cfg (memoL m l)) f args = true) (h : goV Tryz.prog (cfg (memoL m l)) (tab (memoL m l)) 4000 f args = some v) (hp : pnB v = false) : Fact Tryz.prog f args v := goV_fact follows (okM ok) tab_ok ho h hp
theorem k0 : Fact Tryz.prog 22 [w0] (.tup [w1, .i .i64 0, .i .i64 0]) := fk 0 AllKnown.nil (by kernel_rfl) kq0 (by kernel_rfl)
theorem kl0_ok : AllKnown Tryz.prog kl0 := .cons k0 AllKnown.nil
theorem k1 : Fact Tryz.prog 29 [w0] (.tup [w22, .i .i64 0, .i .i64 0]) := fk 4194304 kl0_ok (by kernel_rfl) kq1 (by kernel_rfl)
theorem kl1_ok : AllKnown Tryz.prog kl1 := .cons k1 kl0_ok
theorem k2 : Fact Tryz.prog 51 [w22] (.b true) := fk 541065216 kl1_ok (by kernel_rfl) kq2 (by kernel_rfl)
theorem kl2_ok : AllKnown Tryz.prog kl2 := .cons k2 kl1_ok
theorem k3 : Fact Tryz.prog 57 [w22] (w35) := fk 2251800354750464 kl2_ok (by kernel_rfl) kq3 (by kernel_rfl)
theorem kl3_ok : AllKnown Tryz.prog kl3 := .cons k3 kl2_ok
theorem k4 : Fact Tryz.prog 5 [] (.b true) := fk 146366988430606336 kl3_ok (by kernel_rfl) kq4 (by kernel_rfl)
theorem kl4_ok : AllKnown Tryz.prog kl4 := .cons k4 kl3_ok
theorem okAll : CfgOK Tryz.prog (cfg mAll) := okM kl4_ok
end Go.Zev.Cn
