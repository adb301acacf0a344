/-
  Printed by facts.py: closed calls and their answers.
-/
import Derived.Test.YtagkkgadnicniaaGreatDoorHK0
set_option maxRecDepth 20000
namespace Go.Zev.Is
open Go Go.Zev Go.Proofs
theorem kq0 : goV Tryz.prog (cfg (memoL 0 [])) (tab (memoL 0 [])) 4000 12 ka0 = some (.tup [.agg [w8], .i .i64 0, .i .i64 0]) := by kernel_rfl
theorem kq1 : goV Tryz.prog (cfg (memoL 4096 kl0)) (tab (memoL 4096 kl0)) 4000 13 [.agg [w8]] = some (.tup [.agg [w13], .i .i64 0, .s 0 0]) := by kernel_rfl
theorem kq2 : goV Tryz.prog (cfg (memoL 12288 kl1)) (tab (memoL 12288 kl1)) 4000 9 [] = some (.b true) := by kernel_rfl
end Go.Zev.Is
