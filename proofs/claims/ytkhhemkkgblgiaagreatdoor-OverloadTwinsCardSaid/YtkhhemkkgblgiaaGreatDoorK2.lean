/-
  Printed by facts.py: closed calls and their answers.
-/
import Derived.Test.YtkhhemkkgblgiaaGreatDoorK1
set_option maxRecDepth 20000
namespace Go.Zev.Po
open Go Go.Zev Go.Proofs
theorem fk {f : FuncId} {args : List AV} {v : AV} (m : Nat) {l : List Known} (ok : AllKnown Tryz.prog l) (ho : own (cfg (memoL m l)) f args = true) (h : goV Tryz.prog (cfg (memoL m l)) (tab (memoL m l)) 4000 f args = some v) (hp : pnB v = false) : Fact Tryz.prog f args v := goV_fact follows (okM ok) tab_ok ho h hp
theorem k0 : Fact Tryz.prog 15 ka0 (.tup [w11, .i .i64 0, .i .i64 0]) := fk 0 AllKnown.nil (by kernel_rfl) kq0 (by kernel_rfl)
theorem kl0_ok : AllKnown Tryz.prog kl0 := .cons k0 AllKnown.nil
theorem k1 : Fact Tryz.prog 8 [w11, .s 3 5194063] (w23) := fk 32768 kl0_ok (by kernel_rfl) kq1 (by kernel_rfl)
theorem kl1_ok : AllKnown Tryz.prog kl1 := .cons k1 kl0_ok
theorem k2 : Fact Tryz.prog 8 [w11, .s 3 5128527] (w39) := fk 33024 kl1_ok (by kernel_rfl) kq2 (by kernel_rfl)
theorem kl2_ok : AllKnown Tryz.prog kl2 := .cons k2 kl1_ok
theorem k3 : Fact Tryz.prog 9 [] (.b true) := fk 33024 kl2_ok (by kernel_rfl) kq3 (by kernel_rfl)
theorem kl3_ok : AllKnown Tryz.prog kl3 := .cons k3 kl2_ok
theorem k4 : Fact Tryz.prog 15 ka4 (kr4) := fk 33536 kl3_ok (by kernel_rfl) kq4 (by kernel_rfl)
theorem kl4_ok : AllKnown Tryz.prog kl4 := .cons k4 kl3_ok
theorem k5 : Fact Tryz.prog 15 ka5 (kr5) := fk 33536 kl4_ok (by kernel_rfl) kq5 (by kernel_rfl)
theorem kl5_ok : AllKnown Tryz.prog kl5 := .cons k5 kl4_ok
theorem k6 : Fact Tryz.prog 15 ka6 (kr6) := fk 33536 kl5_ok (by kernel_rfl) kq6 (by kernel_rfl)
theorem kl6_ok : AllKnown Tryz.prog kl6 := .cons k6 kl5_ok
theorem k7 : Fact Tryz.prog 15 ka7 (kr7) := fk 33536 kl6_ok (by kernel_rfl) kq7 (by kernel_rfl)
theorem kl7_ok : AllKnown Tryz.prog kl7 := .cons k7 kl6_ok
theorem k8 : Fact Tryz.prog 15 ka8 (kr8) := fk 33536 kl7_ok (by kernel_rfl) kq8 (by kernel_rfl)
theorem kl8_ok : AllKnown Tryz.prog kl8 := .cons k8 kl7_ok
theorem k9 : Fact Tryz.prog 15 ka9 (kr9) := fk 33536 kl8_ok (by kernel_rfl) kq9 (by kernel_rfl)
theorem kl9_ok : AllKnown Tryz.prog kl9 := .cons k9 kl8_ok
theorem k10 : Fact Tryz.prog 15 ka10 (kr10) := fk 33536 kl9_ok (by kernel_rfl) kq10 (by kernel_rfl)
theorem kl10_ok : AllKnown Tryz.prog kl10 := .cons k10 kl9_ok
theorem k11 : Fact Tryz.prog 15 ka11 (kr11) := fk 33536 kl10_ok (by kernel_rfl) kq11 (by kernel_rfl)
theorem kl11_ok : AllKnown Tryz.prog kl11 := .cons k11 kl10_ok
theorem k12 : Fact Tryz.prog 15 ka12 (kr12) := fk 33536 kl11_ok (by kernel_rfl) kq12 (by kernel_rfl)
theorem kl12_ok : AllKnown Tryz.prog kl12 := .cons k12 kl11_ok
theorem k13 : Fact Tryz.prog 15 ka13 (kr13) := fk 33536 kl12_ok (by kernel_rfl) kq13 (by kernel_rfl)
theorem kl13_ok : AllKnown Tryz.prog kl13 := .cons k13 kl12_ok
theorem k14 : Fact Tryz.prog 15 ka14 (kr14) := fk 33536 kl13_ok (by kernel_rfl) kq14 (by kernel_rfl)
theorem kl14_ok : AllKnown Tryz.prog kl14 := .cons k14 kl13_ok
theorem k15 : Fact Tryz.prog 15 ka15 (kr15) := fk 33536 kl14_ok (by kernel_rfl) kq15 (by kernel_rfl)
theorem kl15_ok : AllKnown Tryz.prog kl15 := .cons k15 kl14_ok
theorem k16 : Fact Tryz.prog 15 ka16 (kr16) := fk 33536 kl15_ok (by kernel_rfl) kq16 (by kernel_rfl)
theorem kl16_ok : AllKnown Tryz.prog kl16 := .cons k16 kl15_ok
theorem k17 : Fact Tryz.prog 15 ka17 (kr17) := fk 33536 kl16_ok (by kernel_rfl) kq17 (by kernel_rfl)
theorem kl17_ok : AllKnown Tryz.prog kl17 := .cons k17 kl16_ok
theorem k18 : Fact Tryz.prog 15 ka18 (kr18) := fk 33536 kl17_ok (by kernel_rfl) kq18 (by kernel_rfl)
theorem kl18_ok : AllKnown Tryz.prog kl18 := .cons k18 kl17_ok
theorem k19 : Fact Tryz.prog 15 ka19 (kr19) := fk 33536 kl18_ok (by kernel_rfl) kq19 (by kernel_rfl)
theorem kl19_ok : AllKnown Tryz.prog kl19 := .cons k19 kl18_ok
theorem k20 : Fact Tryz.prog 15 ka20 (.tup [w61, .i .i64 0, .i .i64 0]) := fk 33536 kl19_ok (by kernel_rfl) kq20 (by kernel_rfl)
theorem kl20_ok : AllKnown Tryz.prog kl20 := .cons k20 kl19_ok
theorem k21 : Fact Tryz.prog 8 [w61, .s 3 5393743] (w79) := fk 33536 kl20_ok (by kernel_rfl) kq21 (by kernel_rfl)
theorem kl21_ok : AllKnown Tryz.prog kl21 := .cons k21 kl20_ok
theorem k22 : Fact Tryz.prog 15 ka22 (kr22) := fk 33536 kl21_ok (by kernel_rfl) kq22 (by kernel_rfl)
theorem kl22_ok : AllKnown Tryz.prog kl22 := .cons k22 kl21_ok
theorem k23 : Fact Tryz.prog 15 ka23 (kr23) := fk 33536 kl22_ok (by kernel_rfl) kq23 (by kernel_rfl)
theorem kl23_ok : AllKnown Tryz.prog kl23 := .cons k23 kl22_ok
theorem k24 : Fact Tryz.prog 15 ka24 (kr24) := fk 33536 kl23_ok (by kernel_rfl) kq24 (by kernel_rfl)
theorem kl24_ok : AllKnown Tryz.prog kl24 := .cons k24 kl23_ok
theorem k25 : Fact Tryz.prog 15 ka25 (kr25) := fk 33536 kl24_ok (by kernel_rfl) kq25 (by kernel_rfl)
theorem kl25_ok : AllKnown Tryz.prog kl25 := .cons k25 kl24_ok
theorem okAll : CfgOK Tryz.prog (cfg mAll) := okM kl25_ok
end Go.Zev.Po
