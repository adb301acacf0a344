/-
  Printed by facts.py: closed calls and their answers.
-/
import Derived.Test.YtkhhemkkgblgiaaGreatDoorK0
set_option maxRecDepth 20000
namespace Go.Zev.Pn
open Go Go.Zev Go.Proofs
theorem kq218 : goV Tryz.prog (cfg (memoL 8813272942592 kl217)) (tab (memoL 8813272942592 kl217)) 4000 34 [.agg [w758]] = some (.tup [.agg [w760], .i .i64 0, .s 0 0]) := by kernel_rfl
theorem kq219 : goV Tryz.prog (cfg (memoL 8813272942592 kl218)) (tab (memoL 8813272942592 kl218)) 4000 34 [.agg [w762]] = some (.tup [.agg [w764], .i .i64 0, .s 0 0]) := by kernel_rfl
theorem kq220 : goV Tryz.prog (cfg (memoL 8813272942592 kl219)) (tab (memoL 8813272942592 kl219)) 4000 15 ka220 = some (.tup [.agg [w765], .i .i64 0, .i .i64 0]) := by kernel_rfl
theorem kq221 : goV Tryz.prog (cfg (memoL 8813272942592 kl220)) (tab (memoL 8813272942592 kl220)) 4000 43 [.agg [w765]] = some (.tup [.agg [w766], .i .i64 0, .s 0 0]) := by kernel_rfl
theorem kq222 : goV Tryz.prog (cfg (memoL 8813272942592 kl221)) (tab (memoL 8813272942592 kl221)) 4000 34 [.agg [w767]] = some (.tup [.agg [w768], .i .i64 0, .s 0 0]) := by kernel_rfl
theorem kq223 : goV Tryz.prog (cfg (memoL 8813272942592 kl222)) (tab (memoL 8813272942592 kl222)) 4000 34 [.agg [w770]] = some (.tup [.agg [w772], .i .i64 0, .s 0 0]) := by kernel_rfl
theorem kq224 : goV Tryz.prog (cfg (memoL 8813272942592 kl223)) (tab (memoL 8813272942592 kl223)) 4000 34 [.agg [w773]] = some (.tup [.agg [w774], .i .i64 0, .s 0 0]) := by kernel_rfl
theorem kq225 : goV Tryz.prog (cfg (memoL 8813272942592 kl224)) (tab (memoL 8813272942592 kl224)) 4000 34 [.agg [w776]] = some (.tup [.agg [w778], .i .i64 0, .s 0 0]) := by kernel_rfl
theorem kq226 : goV Tryz.prog (cfg (memoL 8813272942592 kl225)) (tab (memoL 8813272942592 kl225)) 4000 34 [.agg [w779]] = some (.tup [.agg [w780], .i .i64 0, .s 0 0]) := by kernel_rfl
theorem kq227 : goV Tryz.prog (cfg (memoL 8813272942592 kl226)) (tab (memoL 8813272942592 kl226)) 4000 34 [.agg [w782]] = some (.tup [.agg [w784], .i .i64 0, .s 0 0]) := by kernel_rfl
theorem kq228 : goV Tryz.prog (cfg (memoL 8813272942592 kl227)) (tab (memoL 8813272942592 kl227)) 4000 15 ka228 = some (.tup [.agg [w785], .i .i64 0, .i .i64 0]) := by kernel_rfl
theorem kq229 : goV Tryz.prog (cfg (memoL 8813272942592 kl228)) (tab (memoL 8813272942592 kl228)) 4000 43 [.agg [w785]] = some (.tup [.agg [w786], .i .i64 0, .s 0 0]) := by kernel_rfl
theorem kq230 : goV Tryz.prog (cfg (memoL 8813272942592 kl229)) (tab (memoL 8813272942592 kl229)) 4000 11 [.agg [w785], .s 3 4410960] = some (w799) := by kernel_rfl
theorem kq231 : goV Tryz.prog (cfg (memoL 8813272942592 kl230)) (tab (memoL 8813272942592 kl230)) 4000 34 [.agg [w787]] = some (.tup [.agg [w800], .i .i64 0, .s 0 0]) := by kernel_rfl
theorem kq232 : goV Tryz.prog (cfg (memoL 8813272942592 kl231)) (tab (memoL 8813272942592 kl231)) 4000 34 [.agg [w789]] = some (.tup [.agg [w802], .i .i64 0, .s 0 0]) := by kernel_rfl
theorem kq233 : goV Tryz.prog (cfg (memoL 8813272942592 kl232)) (tab (memoL 8813272942592 kl232)) 4000 34 [.agg [w790]] = some (.tup [.agg [w803], .i .i64 0, .s 0 0]) := by kernel_rfl
theorem kq234 : goV Tryz.prog (cfg (memoL 8813272942592 kl233)) (tab (memoL 8813272942592 kl233)) 4000 34 [.agg [w792]] = some (.tup [.agg [w805], .i .i64 0, .s 0 0]) := by kernel_rfl
theorem kq235 : goV Tryz.prog (cfg (memoL 8813272942592 kl234)) (tab (memoL 8813272942592 kl234)) 4000 34 [.agg [w793]] = some (.tup [.agg [w806], .i .i64 0, .s 0 0]) := by kernel_rfl
theorem kq236 : goV Tryz.prog (cfg (memoL 8813272942592 kl235)) (tab (memoL 8813272942592 kl235)) 4000 34 [.agg [w795]] = some (.tup [.agg [w808], .i .i64 0, .s 0 0]) := by kernel_rfl
theorem kq237 : goV Tryz.prog (cfg (memoL 8813272942592 kl236)) (tab (memoL 8813272942592 kl236)) 4000 34 [.agg [w796]] = some (.tup [.agg [w809], .i .i64 0, .s 0 0]) := by kernel_rfl
theorem kq238 : goV Tryz.prog (cfg (memoL 8813272942592 kl237)) (tab (memoL 8813272942592 kl237)) 4000 34 [.agg [w798]] = some (.tup [.agg [w811], .i .i64 0, .s 0 0]) := by kernel_rfl
theorem kq239 : goV Tryz.prog (cfg (memoL 8813272942592 kl238)) (tab (memoL 8813272942592 kl238)) 4000 43 [.agg [w812]] = some (.tup [.agg [w813], .i .i64 0, .s 0 0]) := by kernel_rfl
theorem kq240 : goV Tryz.prog (cfg (memoL 8813272942592 kl239)) (tab (memoL 8813272942592 kl239)) 4000 43 [.agg [w814]] = some (.tup [.agg [w816], .i .i64 0, .s 0 0]) := by kernel_rfl
theorem kq241 : goV Tryz.prog (cfg (memoL 8813272942592 kl240)) (tab (memoL 8813272942592 kl240)) 4000 34 [.agg [w818]] = some (.tup [.agg [w820], .i .i64 0, .s 0 0]) := by kernel_rfl
theorem kq242 : goV Tryz.prog (cfg (memoL 8813272942592 kl241)) (tab (memoL 8813272942592 kl241)) 4000 34 [.agg [w822]] = some (.tup [.agg [w824], .i .i64 0, .s 0 0]) := by kernel_rfl
theorem kq243 : goV Tryz.prog (cfg (memoL 8813272942592 kl242)) (tab (memoL 8813272942592 kl242)) 4000 15 ka243 = some (.tup [.agg [w825], .i .i64 0, .i .i64 0]) := by kernel_rfl
end Go.Zev.Pn
