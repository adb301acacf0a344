/-
  Printed by facts.py: closed calls and their answers.
-/
import Derived.Test.YtagkkgadnicniaaGreatDoorHK1
set_option maxRecDepth 20000
namespace Go.Zev.Is
open Go Go.Zev Go.Proofs
theorem fk {f : FuncId} {args : List AV} {v : AV} (m : Nat) {l : List Known} (ok : AllKnown Tryz.prog l) (ho : own (cfg (memoL m l)) f args = true) (h : goV Tryz.prog (cfg (memoL m l)) (tab (memoL m l)) 4000 f args = some v) (hp : pnB v = false) : Fact Tryz.prog f args v := goV_fact follows (okM ok) tab_ok ho h hp
theorem k0 : Fact Tryz.prog 12 ka0 (.tup [.agg [w8], .i .i64 0, .i .i64 0]) := fk 0 AllKnown.nil (by kernel_rfl) kq0 (by kernel_rfl)
theorem kl0_ok : AllKnown Tryz.prog kl0 := .cons k0 AllKnown.nil
theorem k1 : Fact Tryz.prog 13 [.agg [w8]] (.tup [.agg [w13], .i .i64 0, .s 0 0]) := fk 4096 kl0_ok (by kernel_rfl) kq1 (by kernel_rfl)
theorem kl1_ok : AllKnown Tryz.prog kl1 := .cons k1 kl0_ok
theorem k2 : Fact Tryz.prog 9 [] (.b true) := fk 12288 kl1_ok (by kernel_rfl) kq2 (by kernel_rfl)
theorem kl2_ok : AllKnown Tryz.prog kl2 := .cons k2 kl1_ok
theorem okAll : CfgOK Tryz.prog (cfg mAll) := okM kl2_ok
end Go.Zev.Is
