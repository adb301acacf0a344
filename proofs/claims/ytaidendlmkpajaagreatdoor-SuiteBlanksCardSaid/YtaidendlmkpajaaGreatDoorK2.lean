/-
  Printed by facts.py: closed calls and their answers.
-/
import Derived.Test.YtaidendlmkpajaaGreatDoorK1
set_option maxRecDepth 20000
namespace Go.Zev.Su
open Go Go.Zev Go.Proofs
theorem fk {f : FuncId} {args : List AV} {v : AV} (m : Nat) {l : List Known} (ok : AllKnown Tryz.prog l) (ho : own (cfg (memoL m l)) f args = true) (h : goV Tryz.prog (cfg (memoL m l)) (tab (memoL m l)) 4000 f args = some v) (hp : pnB v = false) : Fact Tryz.prog f args v := goV_fact follows (okM ok) tab_ok ho h hp
theorem k0 : Fact Tryz.prog 50 [w0] (.tup [w1, .i .i64 0, .i .i64 0]) := fk 67110016 kx_ok (by kernel_rfl) kq0 (by kernel_rfl)
theorem kl0_ok : AllKnown Tryz.prog kl0 := .cons k0 kx_ok
theorem k1 : Fact Tryz.prog 32 [w0] (.tup [w22, .i .i64 0, .i .i64 0]) := fk 1125899973952640 kl0_ok (by kernel_rfl) kq1 (by kernel_rfl)
theorem kl1_ok : AllKnown Tryz.prog kl1 := .cons k1 kl0_ok
theorem k2 : Fact Tryz.prog 62 [w22] (w38) := fk 1125904268919936 kl1_ok (by kernel_rfl) kq2 (by kernel_rfl)
theorem kl2_ok : AllKnown Tryz.prog kl2 := .cons k2 kl1_ok
theorem k3 : Fact Tryz.prog 102 [w22] (.b true) := fk 4612811922696307840 kl2_ok (by kernel_rfl) kq3 (by kernel_rfl)
theorem kl3_ok : AllKnown Tryz.prog kl3 := .cons k3 kl2_ok
theorem k4 : Fact Tryz.prog 71 [w22] (kr4) := fk 5070602400917530417909509129344 kl3_ok (by kernel_rfl) kq4 (by kernel_rfl)
theorem kl4_ok : AllKnown Tryz.prog kl4 := .cons k4 kl3_ok
theorem k5 : Fact Tryz.prog 8 [] (.b true) := fk 5070602403278713659344331736192 kl4_ok (by kernel_rfl) kq5 (by kernel_rfl)
theorem kl5_ok : AllKnown Tryz.prog kl5 := .cons k5 kl4_ok
theorem okAll : CfgOK Tryz.prog (cfg mAll) := okM kl5_ok
end Go.Zev.Su
