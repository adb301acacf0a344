/-
  Printed by facts.py: closed calls and their answers.
-/
import Derived.Test.YtkhhemkkgblgiaaGreatDoorK0
set_option maxRecDepth 20000
namespace Go.Zev.Pn
open Go Go.Zev Go.Proofs
theorem kq111 : goV Tryz.prog (cfg (memoL 8813272942592 kl110)) (tab (memoL 8813272942592 kl110)) 4000 34 [.agg [w438]] = some (.tup [.agg [w469], .i .i64 0, .s 0 0]) := by kernel_rfl
theorem kq112 : goV Tryz.prog (cfg (memoL 8813272942592 kl111)) (tab (memoL 8813272942592 kl111)) 4000 34 [.agg [w440]] = some (.tup [.agg [w471], .i .i64 0, .s 0 0]) := by kernel_rfl
theorem kq113 : goV Tryz.prog (cfg (memoL 8813272942592 kl112)) (tab (memoL 8813272942592 kl112)) 4000 15 ka113 = some (.tup [.agg [w472], .i .i64 0, .i .i64 0]) := by kernel_rfl
theorem kq114 : goV Tryz.prog (cfg (memoL 8813272942592 kl113)) (tab (memoL 8813272942592 kl113)) 4000 43 [.agg [w472]] = some (.tup [.agg [w474], .i .i64 0, .s 0 0]) := by kernel_rfl
theorem kq115 : goV Tryz.prog (cfg (memoL 8813272942592 kl114)) (tab (memoL 8813272942592 kl114)) 4000 11 [.agg [w472], .s 3 4410960] = some (w499) := by kernel_rfl
theorem kq116 : goV Tryz.prog (cfg (memoL 8813272942592 kl115)) (tab (memoL 8813272942592 kl115)) 4000 34 [.agg [w475]] = some (.tup [.agg [w501], .i .i64 0, .s 0 0]) := by kernel_rfl
theorem kq117 : goV Tryz.prog (cfg (memoL 8813272942592 kl116)) (tab (memoL 8813272942592 kl116)) 4000 34 [.agg [w476]] = some (.tup [.agg [w503], .i .i64 0, .s 0 0]) := by kernel_rfl
theorem kq118 : goV Tryz.prog (cfg (memoL 8813272942592 kl117)) (tab (memoL 8813272942592 kl117)) 4000 34 [.agg [w477]] = some (.tup [.agg [w505], .i .i64 0, .s 0 0]) := by kernel_rfl
theorem kq119 : goV Tryz.prog (cfg (memoL 8813272942592 kl118)) (tab (memoL 8813272942592 kl118)) 4000 34 [.agg [w478]] = some (.tup [.agg [w506], .i .i64 0, .s 0 0]) := by kernel_rfl
theorem kq120 : goV Tryz.prog (cfg (memoL 8813272942592 kl119)) (tab (memoL 8813272942592 kl119)) 4000 34 [.agg [w480]] = some (.tup [.agg [w508], .i .i64 0, .s 0 0]) := by kernel_rfl
theorem kq121 : goV Tryz.prog (cfg (memoL 8813272942592 kl120)) (tab (memoL 8813272942592 kl120)) 4000 34 [.agg [w481]] = some (.tup [.agg [w510], .i .i64 0, .s 0 0]) := by kernel_rfl
theorem kq122 : goV Tryz.prog (cfg (memoL 8813272942592 kl121)) (tab (memoL 8813272942592 kl121)) 4000 34 [.agg [w482]] = some (.tup [.agg [w512], .i .i64 0, .s 0 0]) := by kernel_rfl
theorem kq123 : goV Tryz.prog (cfg (memoL 8813272942592 kl122)) (tab (memoL 8813272942592 kl122)) 4000 34 [.agg [w483]] = some (.tup [.agg [w514], .i .i64 0, .s 0 0]) := by kernel_rfl
theorem kq124 : goV Tryz.prog (cfg (memoL 8813272942592 kl123)) (tab (memoL 8813272942592 kl123)) 4000 34 [.agg [w484]] = some (.tup [.agg [w515], .i .i64 0, .s 0 0]) := by kernel_rfl
theorem kq125 : goV Tryz.prog (cfg (memoL 8813272942592 kl124)) (tab (memoL 8813272942592 kl124)) 4000 34 [.agg [w486]] = some (.tup [.agg [w517], .i .i64 0, .s 0 0]) := by kernel_rfl
theorem kq126 : goV Tryz.prog (cfg (memoL 8813272942592 kl125)) (tab (memoL 8813272942592 kl125)) 4000 34 [.agg [w487]] = some (.tup [.agg [w519], .i .i64 0, .s 0 0]) := by kernel_rfl
theorem kq127 : goV Tryz.prog (cfg (memoL 8813272942592 kl126)) (tab (memoL 8813272942592 kl126)) 4000 34 [.agg [w488]] = some (.tup [.agg [w521], .i .i64 0, .s 0 0]) := by kernel_rfl
theorem kq128 : goV Tryz.prog (cfg (memoL 8813272942592 kl127)) (tab (memoL 8813272942592 kl127)) 4000 34 [.agg [w489]] = some (.tup [.agg [w523], .i .i64 0, .s 0 0]) := by kernel_rfl
theorem kq129 : goV Tryz.prog (cfg (memoL 8813272942592 kl128)) (tab (memoL 8813272942592 kl128)) 4000 34 [.agg [w490]] = some (.tup [.agg [w524], .i .i64 0, .s 0 0]) := by kernel_rfl
theorem kq130 : goV Tryz.prog (cfg (memoL 8813272942592 kl129)) (tab (memoL 8813272942592 kl129)) 4000 34 [.agg [w492]] = some (.tup [.agg [w526], .i .i64 0, .s 0 0]) := by kernel_rfl
theorem kq131 : goV Tryz.prog (cfg (memoL 8813272942592 kl130)) (tab (memoL 8813272942592 kl130)) 4000 34 [.agg [w493]] = some (.tup [.agg [w528], .i .i64 0, .s 0 0]) := by kernel_rfl
theorem kq132 : goV Tryz.prog (cfg (memoL 8813272942592 kl131)) (tab (memoL 8813272942592 kl131)) 4000 34 [.agg [w494]] = some (.tup [.agg [w530], .i .i64 0, .s 0 0]) := by kernel_rfl
theorem kq133 : goV Tryz.prog (cfg (memoL 8813272942592 kl132)) (tab (memoL 8813272942592 kl132)) 4000 34 [.agg [w495]] = some (.tup [.agg [w532], .i .i64 0, .s 0 0]) := by kernel_rfl
theorem kq134 : goV Tryz.prog (cfg (memoL 8813272942592 kl133)) (tab (memoL 8813272942592 kl133)) 4000 34 [.agg [w496]] = some (.tup [.agg [w533], .i .i64 0, .s 0 0]) := by kernel_rfl
theorem kq135 : goV Tryz.prog (cfg (memoL 8813272942592 kl134)) (tab (memoL 8813272942592 kl134)) 4000 34 [.agg [w498]] = some (.tup [.agg [w535], .i .i64 0, .s 0 0]) := by kernel_rfl
theorem kq136 : goV Tryz.prog (cfg (memoL 8813272942592 kl135)) (tab (memoL 8813272942592 kl135)) 4000 11 [.agg [w536], .s 3 4410960] = some (w537) := by kernel_rfl
end Go.Zev.Pn
