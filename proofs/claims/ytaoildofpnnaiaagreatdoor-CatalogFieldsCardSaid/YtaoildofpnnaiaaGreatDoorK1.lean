/-
  Printed by facts.py: closed calls and their answers.
-/
import Derived.Test.YtaoildofpnnaiaaGreatDoorK0
set_option maxRecDepth 20000
namespace Go.Zev.Cf
open Go Go.Zev Go.Proofs
theorem kq0 : qG [] 51 [.agg [.nsl]] = some (.tup [.agg [.nsl], .i .i64 0, .s 0 0]) := by kernel_rfl
theorem kq1 : qG kl0 9 [w0] = some (.tup [w1, .i .i64 0, .i .i64 0]) := by kernel_rfl
theorem kq2 : qG kl1 5 [w0] = some (.tup [w24, .i .i64 0, .i .i64 0]) := by kernel_rfl
theorem kq3 : qG kl2 115 [w24] = some (w40) := by kernel_rfl
theorem kq4 : qG kl3 175 [.agg [.b false, .s 3 7630441, .s 1 120, w2]] = some (.b true) := by kernel_rfl
theorem kq5 : qG kl4 175 [.agg [.b true, .s 3 7630441, .s 1 115, w3]] = some (.b true) := by kernel_rfl
theorem kq6 : qG kl5 175 [.agg [.b false, .s 1 65, .s 1 110, .nsl]] = some (.b true) := by kernel_rfl
theorem kq7 : qG kl6 175 [.agg [.b false, .s 6 113723913172051, .s 1 119, w4]] = some (.b true) := by kernel_rfl
theorem kq8 : qG kl7 175 [.agg [.b true, .s 1 65, .s 1 122, w18]] = some (.b true) := by kernel_rfl
theorem kq9 : qG kl8 51 [w24] = some (kr9) := by kernel_rfl
theorem kq10 : qG kl9 175 [.agg [.b false, .s 3 7630441, .s 1 120, w41]] = some (.b true) := by kernel_rfl
theorem kq11 : qG kl10 175 [.agg [.b true, .s 3 7630441, .s 1 115, w42]] = some (.b true) := by kernel_rfl
theorem kq12 : qG kl11 175 [.agg [.b false, .s 6 113723913172051, .s 1 119, w43]] = some (.b true) := by kernel_rfl
theorem kq13 : qG kl12 175 [.agg [.b true, .s 1 65, .s 1 122, w58]] = some (.b true) := by kernel_rfl
theorem kq14 : qG kl13 51 [.agg [w74]] = some (kr14) := by kernel_rfl
theorem kq15 : qG kl14 51 [.agg [w80]] = some (kr15) := by kernel_rfl
theorem kq16 : qG kl15 51 [.agg [w84]] = some (kr16) := by kernel_rfl
theorem kq17 : qG kl16 51 ka17 = some (w87) := by kernel_rfl
theorem kq18 : qG kl17 51 [.agg [w89]] = some (kr18) := by kernel_rfl
theorem kq19 : qG kl18 51 [.agg [w95]] = some (kr19) := by kernel_rfl
theorem kq20 : qG kl19 51 ka20 = some (w87) := by kernel_rfl
theorem kq21 : qG kl20 175 [.agg [.b true, .s 3 7630441, .s 1 120, w41]] = some (.b true) := by kernel_rfl
theorem kq22 : qG kl21 51 ka22 = some (w101) := by kernel_rfl
theorem kq23 : qG kl22 175 [.agg [.b false, .s 3 7630441, .s 1 115, w42]] = some (.b true) := by kernel_rfl
theorem kq24 : qG kl23 51 ka24 = some (.tup [.agg [.nsl], .i .i64 13, .s 3 7024193]) := by kernel_rfl
theorem kq25 : qG kl24 175 [.agg [.b true, .s 1 65, .s 1 110, .nsl]] = some (.b true) := by kernel_rfl
theorem kq26 : qG kl25 51 [.agg [w104]] = some (kr26) := by kernel_rfl
theorem kq27 : qG kl26 175 [.agg [.b true, .s 6 113723913172051, .s 1 119, w43]] = some (.b true) := by kernel_rfl
theorem kq28 : qG kl27 51 [.agg [w106]] = some (kr28) := by kernel_rfl
theorem kq29 : qG kl28 175 [.agg [.b false, .s 1 65, .s 1 122, w58]] = some (.b true) := by kernel_rfl
end Go.Zev.Cf
