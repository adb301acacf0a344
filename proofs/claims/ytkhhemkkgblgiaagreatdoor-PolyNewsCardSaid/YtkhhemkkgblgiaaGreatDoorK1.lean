/-
  Printed by facts.py: closed calls and their answers.
-/
import Derived.Test.YtkhhemkkgblgiaaGreatDoorK0
set_option maxRecDepth 20000
namespace Go.Zev.Pn
open Go Go.Zev Go.Proofs
theorem kq0 : goV Tryz.prog (cfg (memoL 0 [])) (tab (memoL 0 [])) 4000 15 ka0 = some (kr0) := by kernel_rfl
theorem kq1 : goV Tryz.prog (cfg (memoL 32768 kl0)) (tab (memoL 32768 kl0)) 4000 14 [] = some (.b true) := by kernel_rfl
theorem kq2 : goV Tryz.prog (cfg (memoL 49152 kl1)) (tab (memoL 49152 kl1)) 4000 15 ka2 = some (kr2) := by kernel_rfl
theorem kq3 : goV Tryz.prog (cfg (memoL 49152 kl2)) (tab (memoL 49152 kl2)) 4000 15 ka3 = some (kr3) := by kernel_rfl
theorem kq4 : goV Tryz.prog (cfg (memoL 49152 kl3)) (tab (memoL 49152 kl3)) 4000 15 ka4 = some (.tup [w10, .i .i64 0, .i .i64 0]) := by kernel_rfl
theorem kq5 : goV Tryz.prog (cfg (memoL 49152 kl4)) (tab (memoL 49152 kl4)) 4000 11 [w10, .s 3 4410960] = some (w22) := by kernel_rfl
theorem kq6 : goV Tryz.prog (cfg (memoL 51200 kl5)) (tab (memoL 51200 kl5)) 4000 15 ka6 = some (.tup [w23, .i .i64 0, .i .i64 0]) := by kernel_rfl
theorem kq7 : goV Tryz.prog (cfg (memoL 51200 kl6)) (tab (memoL 51200 kl6)) 4000 11 [w23, .s 3 4410960] = some (w28) := by kernel_rfl
theorem kq8 : goV Tryz.prog (cfg (memoL 51200 kl7)) (tab (memoL 51200 kl7)) 4000 15 ka8 = some (w31) := by kernel_rfl
theorem kq9 : goV Tryz.prog (cfg (memoL 51200 kl8)) (tab (memoL 51200 kl8)) 4000 15 ka9 = some (.tup [.agg [w33], .i .i64 0, .i .i64 0]) := by kernel_rfl
theorem kq10 : goV Tryz.prog (cfg (memoL 51200 kl9)) (tab (memoL 51200 kl9)) 4000 11 [.agg [w33], .s 3 4410960] = some (w53) := by kernel_rfl
theorem kq11 : goV Tryz.prog (cfg (memoL 51200 kl10)) (tab (memoL 51200 kl10)) 4000 15 ka11 = some (.tup [.agg [w54], .i .i64 0, .i .i64 0]) := by kernel_rfl
theorem kq12 : goV Tryz.prog (cfg (memoL 51200 kl11)) (tab (memoL 51200 kl11)) 4000 11 [.agg [w54], .s 3 4410960] = some (w71) := by kernel_rfl
theorem kq13 : goV Tryz.prog (cfg (memoL 51200 kl12)) (tab (memoL 51200 kl12)) 4000 15 ka13 = some (.tup [.agg [w73], .i .i64 0, .i .i64 0]) := by kernel_rfl
theorem kq14 : goV Tryz.prog (cfg (memoL 51200 kl13)) (tab (memoL 51200 kl13)) 4000 11 [.agg [w73], .s 3 4410960] = some (w86) := by kernel_rfl
theorem kq15 : goV Tryz.prog (cfg (memoL 51200 kl14)) (tab (memoL 51200 kl14)) 4000 15 ka15 = some (.tup [.agg [w87], .i .i64 0, .i .i64 0]) := by kernel_rfl
theorem kq16 : goV Tryz.prog (cfg (memoL 51200 kl15)) (tab (memoL 51200 kl15)) 4000 11 [.agg [w87], .s 3 4410960] = some (w100) := by kernel_rfl
theorem kq17 : goV Tryz.prog (cfg (memoL 51200 kl16)) (tab (memoL 51200 kl16)) 4000 15 ka17 = some (.tup [.agg [w102], .i .i64 0, .i .i64 0]) := by kernel_rfl
theorem kq18 : goV Tryz.prog (cfg (memoL 51200 kl17)) (tab (memoL 51200 kl17)) 4000 11 [.agg [w102], .s 3 4410960] = some (w109) := by kernel_rfl
theorem kq19 : goV Tryz.prog (cfg (memoL 51200 kl18)) (tab (memoL 51200 kl18)) 4000 15 ka19 = some (.tup [.agg [w110], .i .i64 0, .i .i64 0]) := by kernel_rfl
theorem kq20 : goV Tryz.prog (cfg (memoL 51200 kl19)) (tab (memoL 51200 kl19)) 4000 11 [.agg [w110], .s 3 4410960] = some (w119) := by kernel_rfl
theorem kq21 : goV Tryz.prog (cfg (memoL 51200 kl20)) (tab (memoL 51200 kl20)) 4000 15 ka21 = some (.tup [.agg [w122], .i .i64 0, .i .i64 0]) := by kernel_rfl
theorem kq22 : goV Tryz.prog (cfg (memoL 51200 kl21)) (tab (memoL 51200 kl21)) 4000 11 [.agg [w122], .s 3 4410960] = some (.nsl) := by kernel_rfl
theorem kq23 : goV Tryz.prog (cfg (memoL 51200 kl22)) (tab (memoL 51200 kl22)) 4000 15 ka23 = some (.tup [.agg [w124], .i .i64 0, .i .i64 0]) := by kernel_rfl
theorem kq24 : goV Tryz.prog (cfg (memoL 51200 kl23)) (tab (memoL 51200 kl23)) 4000 11 [.agg [w124], .s 3 4410960] = some (.nsl) := by kernel_rfl
end Go.Zev.Pn
