/-
  Printed by facts.py: closed calls and their answers.
-/
import Derived.Test.YtkhhemkkgblgiaaGreatDoorK0
set_option maxRecDepth 20000
namespace Go.Zev.Pn
open Go Go.Zev Go.Proofs
theorem kq244 : goV Tryz.prog (cfg (memoL 8813272942592 kl243)) (tab (memoL 8813272942592 kl243)) 4000 43 [.agg [w825]] = some (.tup [.agg [w826], .i .i64 0, .s 0 0]) := by kernel_rfl
theorem kq245 : goV Tryz.prog (cfg (memoL 8813272942592 kl244)) (tab (memoL 8813272942592 kl244)) 4000 34 [.agg [w828]] = some (.tup [.agg [w830], .i .i64 0, .s 0 0]) := by kernel_rfl
theorem kq246 : goV Tryz.prog (cfg (memoL 8813272942592 kl245)) (tab (memoL 8813272942592 kl245)) 4000 34 [.agg [w832]] = some (.tup [.agg [w834], .i .i64 0, .s 0 0]) := by kernel_rfl
theorem kq247 : goV Tryz.prog (cfg (memoL 8813272942592 kl246)) (tab (memoL 8813272942592 kl246)) 4000 34 [.agg [w836]] = some (.tup [.agg [w838], .i .i64 0, .s 0 0]) := by kernel_rfl
theorem kq248 : goV Tryz.prog (cfg (memoL 8813272942592 kl247)) (tab (memoL 8813272942592 kl247)) 4000 15 ka248 = some (.tup [.agg [w839], .i .i64 0, .i .i64 0]) := by kernel_rfl
theorem kq249 : goV Tryz.prog (cfg (memoL 8813272942592 kl248)) (tab (memoL 8813272942592 kl248)) 4000 43 [.agg [w839]] = some (.tup [.agg [w840], .i .i64 0, .s 0 0]) := by kernel_rfl
theorem kq250 : goV Tryz.prog (cfg (memoL 8813272942592 kl249)) (tab (memoL 8813272942592 kl249)) 4000 34 [.agg [w842]] = some (.tup [.agg [w844], .i .i64 0, .s 0 0]) := by kernel_rfl
theorem kq251 : goV Tryz.prog (cfg (memoL 8813272942592 kl250)) (tab (memoL 8813272942592 kl250)) 4000 34 [.agg [w846]] = some (.tup [.agg [w848], .i .i64 0, .s 0 0]) := by kernel_rfl
theorem kq252 : goV Tryz.prog (cfg (memoL 8813272942592 kl251)) (tab (memoL 8813272942592 kl251)) 4000 34 [.agg [w850]] = some (.tup [.agg [w852], .i .i64 0, .s 0 0]) := by kernel_rfl
theorem kq253 : goV Tryz.prog (cfg (memoL 8813272942592 kl252)) (tab (memoL 8813272942592 kl252)) 4000 34 [.agg [w854]] = some (.tup [.agg [w856], .i .i64 0, .s 0 0]) := by kernel_rfl
theorem kq254 : goV Tryz.prog (cfg (memoL 8813272942592 kl253)) (tab (memoL 8813272942592 kl253)) 4000 43 [.agg [w858]] = some (w384) := by kernel_rfl
theorem kq255 : goV Tryz.prog (cfg (memoL 8813272942592 kl254)) (tab (memoL 8813272942592 kl254)) 4000 43 [.agg [w860]] = some (.tup [.agg [w862], .i .i64 0, .s 0 0]) := by kernel_rfl
theorem kq256 : goV Tryz.prog (cfg (memoL 8813272942592 kl255)) (tab (memoL 8813272942592 kl255)) 4000 15 ka256 = some (.tup [.agg [w864], .i .i64 0, .i .i64 0]) := by kernel_rfl
theorem kq257 : goV Tryz.prog (cfg (memoL 8813272942592 kl256)) (tab (memoL 8813272942592 kl256)) 4000 43 [.agg [w864]] = some (.tup [.agg [w866], .i .i64 0, .s 0 0]) := by kernel_rfl
theorem kq258 : goV Tryz.prog (cfg (memoL 8813272942592 kl257)) (tab (memoL 8813272942592 kl257)) 4000 15 ka258 = some (.tup [.agg [w868], .i .i64 0, .i .i64 0]) := by kernel_rfl
theorem kq259 : goV Tryz.prog (cfg (memoL 8813272942592 kl258)) (tab (memoL 8813272942592 kl258)) 4000 43 [.agg [w868]] = some (.tup [.agg [w870], .i .i64 0, .s 0 0]) := by kernel_rfl
end Go.Zev.Pn
