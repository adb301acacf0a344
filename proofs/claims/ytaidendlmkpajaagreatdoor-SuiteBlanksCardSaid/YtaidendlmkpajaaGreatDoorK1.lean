/-
  Printed by facts.py: closed calls and their answers.
-/
import Derived.Test.YtaidendlmkpajaaGreatDoorK0
set_option maxRecDepth 20000
namespace Go.Zev.Su
open Go Go.Zev Go.Proofs
theorem kq0 : goV Tryz.prog (cfg (memoL 67110016 kx)) (tab (memoL 67110016 kx)) 4000 50 [w0] = some (.tup [w1, .i .i64 0, .i .i64 0]) := by kernel_rfl
theorem kq1 : goV Tryz.prog (cfg (memoL 1125899973952640 kl0)) (tab (memoL 1125899973952640 kl0)) 4000 32 [w0] = some (.tup [w22, .i .i64 0, .i .i64 0]) := by kernel_rfl
theorem kq2 : goV Tryz.prog (cfg (memoL 1125904268919936 kl1)) (tab (memoL 1125904268919936 kl1)) 4000 62 [w22] = some (w38) := by kernel_rfl
theorem kq3 : goV Tryz.prog (cfg (memoL 4612811922696307840 kl2)) (tab (memoL 4612811922696307840 kl2)) 4000 102 [w22] = some (.b true) := by kernel_rfl
theorem kq4 : goV Tryz.prog (cfg (memoL 5070602400917530417909509129344 kl3)) (tab (memoL 5070602400917530417909509129344 kl3)) 4000 71 [w22] = some (kr4) := by kernel_rfl
theorem kq5 : goV Tryz.prog (cfg (memoL 5070602403278713659344331736192 kl4)) (tab (memoL 5070602403278713659344331736192 kl4)) 4000 8 [] = some (.b true) := by kernel_rfl
end Go.Zev.Su
