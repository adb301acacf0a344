/-
  Printed by facts.py: closed calls and their answers.
-/
import Derived.Test.YtkhhemkkgblgiaaGreatDoorK0
set_option maxRecDepth 20000
namespace Go.Zev.Po
open Go Go.Zev Go.Proofs
theorem kq0 : goV Tryz.prog (cfg (memoL 0 [])) (tab (memoL 0 [])) 4000 15 ka0 = some (.tup [w11, .i .i64 0, .i .i64 0]) := by kernel_rfl
theorem kq1 : goV Tryz.prog (cfg (memoL 32768 kl0)) (tab (memoL 32768 kl0)) 4000 8 [w11, .s 3 5194063] = some (w23) := by kernel_rfl
theorem kq2 : goV Tryz.prog (cfg (memoL 33024 kl1)) (tab (memoL 33024 kl1)) 4000 8 [w11, .s 3 5128527] = some (w39) := by kernel_rfl
theorem kq3 : goV Tryz.prog (cfg (memoL 33024 kl2)) (tab (memoL 33024 kl2)) 4000 9 [] = some (.b true) := by kernel_rfl
theorem kq4 : goV Tryz.prog (cfg (memoL 33536 kl3)) (tab (memoL 33536 kl3)) 4000 15 ka4 = some (kr4) := by kernel_rfl
theorem kq5 : goV Tryz.prog (cfg (memoL 33536 kl4)) (tab (memoL 33536 kl4)) 4000 15 ka5 = some (kr5) := by kernel_rfl
theorem kq6 : goV Tryz.prog (cfg (memoL 33536 kl5)) (tab (memoL 33536 kl5)) 4000 15 ka6 = some (kr6) := by kernel_rfl
theorem kq7 : goV Tryz.prog (cfg (memoL 33536 kl6)) (tab (memoL 33536 kl6)) 4000 15 ka7 = some (kr7) := by kernel_rfl
theorem kq8 : goV Tryz.prog (cfg (memoL 33536 kl7)) (tab (memoL 33536 kl7)) 4000 15 ka8 = some (kr8) := by kernel_rfl
theorem kq9 : goV Tryz.prog (cfg (memoL 33536 kl8)) (tab (memoL 33536 kl8)) 4000 15 ka9 = some (kr9) := by kernel_rfl
theorem kq10 : goV Tryz.prog (cfg (memoL 33536 kl9)) (tab (memoL 33536 kl9)) 4000 15 ka10 = some (kr10) := by kernel_rfl
theorem kq11 : goV Tryz.prog (cfg (memoL 33536 kl10)) (tab (memoL 33536 kl10)) 4000 15 ka11 = some (kr11) := by kernel_rfl
theorem kq12 : goV Tryz.prog (cfg (memoL 33536 kl11)) (tab (memoL 33536 kl11)) 4000 15 ka12 = some (kr12) := by kernel_rfl
theorem kq13 : goV Tryz.prog (cfg (memoL 33536 kl12)) (tab (memoL 33536 kl12)) 4000 15 ka13 = some (kr13) := by kernel_rfl
theorem kq14 : goV Tryz.prog (cfg (memoL 33536 kl13)) (tab (memoL 33536 kl13)) 4000 15 ka14 = some (kr14) := by kernel_rfl
theorem kq15 : goV Tryz.prog (cfg (memoL 33536 kl14)) (tab (memoL 33536 kl14)) 4000 15 ka15 = some (kr15) := by kernel_rfl
theorem kq16 : goV Tryz.prog (cfg (memoL 33536 kl15)) (tab (memoL 33536 kl15)) 4000 15 ka16 = some (kr16) := by kernel_rfl
theorem kq17 : goV Tryz.prog (cfg (memoL 33536 kl16)) (tab (memoL 33536 kl16)) 4000 15 ka17 = some (kr17) := by kernel_rfl
theorem kq18 : goV Tryz.prog (cfg (memoL 33536 kl17)) (tab (memoL 33536 kl17)) 4000 15 ka18 = some (kr18) := by kernel_rfl
theorem kq19 : goV Tryz.prog (cfg (memoL 33536 kl18)) (tab (memoL 33536 kl18)) 4000 15 ka19 = some (kr19) := by kernel_rfl
theorem kq20 : goV Tryz.prog (cfg (memoL 33536 kl19)) (tab (memoL 33536 kl19)) 4000 15 ka20 = some (.tup [w61, .i .i64 0, .i .i64 0]) := by kernel_rfl
theorem kq21 : goV Tryz.prog (cfg (memoL 33536 kl20)) (tab (memoL 33536 kl20)) 4000 8 [w61, .s 3 5393743] = some (w79) := by kernel_rfl
theorem kq22 : goV Tryz.prog (cfg (memoL 33536 kl21)) (tab (memoL 33536 kl21)) 4000 15 ka22 = some (kr22) := by kernel_rfl
theorem kq23 : goV Tryz.prog (cfg (memoL 33536 kl22)) (tab (memoL 33536 kl22)) 4000 15 ka23 = some (kr23) := by kernel_rfl
theorem kq24 : goV Tryz.prog (cfg (memoL 33536 kl23)) (tab (memoL 33536 kl23)) 4000 15 ka24 = some (kr24) := by kernel_rfl
theorem kq25 : goV Tryz.prog (cfg (memoL 33536 kl24)) (tab (memoL 33536 kl24)) 4000 15 ka25 = some (kr25) := by kernel_rfl
end Go.Zev.Po
