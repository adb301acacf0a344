/-
  Printed by facts.py: closed calls and their answers.
-/
import Derived.Test.YtcgfedhoddmliaaGreatK0
set_option maxRecDepth 20000
namespace Go.Zev.Cn
open Go Go.Zev Go.Proofs
theorem kq0 : goV Tryz.prog (cfg (memoL 0 [])) (tab (memoL 0 [])) 4000 22 [w0] = some (.tup [w1, .i .i64 0, .i .i64 0]) := by kernel_rfl
theorem kq1 : goV Tryz.prog (cfg (memoL 4194304 kl0)) (tab (memoL 4194304 kl0)) 4000 29 [w0] = some (.tup [w22, .i .i64 0, .i .i64 0]) := by kernel_rfl
theorem kq2 : goV Tryz.prog (cfg (memoL 541065216 kl1)) (tab (memoL 541065216 kl1)) 4000 51 [w22] = some (.b true) := by kernel_rfl
theorem kq3 : goV Tryz.prog (cfg (memoL 2251800354750464 kl2)) (tab (memoL 2251800354750464 kl2)) 4000 57 [w22] = some (w35) := by kernel_rfl
theorem kq4 : goV Tryz.prog (cfg (memoL 146366988430606336 kl3)) (tab (memoL 146366988430606336 kl3)) 4000 5 [] = some (.b true) := by kernel_rfl
end Go.Zev.Cn
