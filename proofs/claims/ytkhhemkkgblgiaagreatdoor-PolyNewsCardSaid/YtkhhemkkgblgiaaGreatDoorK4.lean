/-
  Printed by facts.py: closed calls and their answers.
-/
import Derived.Test.YtkhhemkkgblgiaaGreatDoorK0
set_option maxRecDepth 20000
namespace Go.Zev.Pn
open Go Go.Zev Go.Proofs
theorem kq82 : goV Tryz.prog (cfg (memoL 8813272942592 kl81)) (tab (memoL 8813272942592 kl81)) 4000 11 [.agg [w374], .s 3 4410960] = some (w381) := by kernel_rfl
theorem kq83 : goV Tryz.prog (cfg (memoL 8813272942592 kl82)) (tab (memoL 8813272942592 kl82)) 4000 34 [.agg [w380]] = some (w384) := by kernel_rfl
theorem kq84 : goV Tryz.prog (cfg (memoL 8813272942592 kl83)) (tab (memoL 8813272942592 kl83)) 4000 43 [.agg [w385]] = some (.tup [.agg [w387], .i .i64 0, .s 0 0]) := by kernel_rfl
theorem kq85 : goV Tryz.prog (cfg (memoL 8813272942592 kl84)) (tab (memoL 8813272942592 kl84)) 4000 34 [.agg [w388]] = some (.tup [.agg [w390], .i .i64 0, .s 0 0]) := by kernel_rfl
theorem kq86 : goV Tryz.prog (cfg (memoL 8813272942592 kl85)) (tab (memoL 8813272942592 kl85)) 4000 34 [.agg [w391]] = some (.tup [.agg [w393], .i .i64 0, .s 0 0]) := by kernel_rfl
theorem kq87 : goV Tryz.prog (cfg (memoL 8813272942592 kl86)) (tab (memoL 8813272942592 kl86)) 4000 34 [.agg [w394]] = some (.tup [.agg [w396], .i .i64 0, .s 0 0]) := by kernel_rfl
theorem kq88 : goV Tryz.prog (cfg (memoL 8813272942592 kl87)) (tab (memoL 8813272942592 kl87)) 4000 34 [.agg [w397]] = some (.tup [.agg [w399], .i .i64 0, .s 0 0]) := by kernel_rfl
theorem kq89 : goV Tryz.prog (cfg (memoL 8813272942592 kl88)) (tab (memoL 8813272942592 kl88)) 4000 34 [.agg [w401]] = some (.tup [.agg [w403], .i .i64 0, .s 0 0]) := by kernel_rfl
theorem kq90 : goV Tryz.prog (cfg (memoL 8813272942592 kl89)) (tab (memoL 8813272942592 kl89)) 4000 34 [.agg [w404]] = some (.tup [.agg [w406], .i .i64 0, .s 0 0]) := by kernel_rfl
theorem kq91 : goV Tryz.prog (cfg (memoL 8813272942592 kl90)) (tab (memoL 8813272942592 kl90)) 4000 34 [.agg [w407]] = some (.tup [.agg [w409], .i .i64 0, .s 0 0]) := by kernel_rfl
theorem kq92 : goV Tryz.prog (cfg (memoL 8813272942592 kl91)) (tab (memoL 8813272942592 kl91)) 4000 34 [.agg [w410]] = some (.tup [.agg [w412], .i .i64 0, .s 0 0]) := by kernel_rfl
theorem kq93 : goV Tryz.prog (cfg (memoL 8813272942592 kl92)) (tab (memoL 8813272942592 kl92)) 4000 34 [.agg [w413]] = some (.tup [.agg [w415], .i .i64 0, .s 0 0]) := by kernel_rfl
theorem kq94 : goV Tryz.prog (cfg (memoL 8813272942592 kl93)) (tab (memoL 8813272942592 kl93)) 4000 34 [.agg [w417]] = some (.tup [.agg [w419], .i .i64 0, .s 0 0]) := by kernel_rfl
theorem kq95 : goV Tryz.prog (cfg (memoL 8813272942592 kl94)) (tab (memoL 8813272942592 kl94)) 4000 15 ka95 = some (.tup [.agg [w420], .i .i64 0, .i .i64 0]) := by kernel_rfl
theorem kq96 : goV Tryz.prog (cfg (memoL 8813272942592 kl95)) (tab (memoL 8813272942592 kl95)) 4000 43 [.agg [w420]] = some (.tup [.agg [w422], .i .i64 0, .s 0 0]) := by kernel_rfl
theorem kq97 : goV Tryz.prog (cfg (memoL 8813272942592 kl96)) (tab (memoL 8813272942592 kl96)) 4000 11 [.agg [w420], .s 3 4410960] = some (w441) := by kernel_rfl
theorem kq98 : goV Tryz.prog (cfg (memoL 8813272942592 kl97)) (tab (memoL 8813272942592 kl97)) 4000 34 [.agg [w423]] = some (.tup [.agg [w443], .i .i64 0, .s 0 0]) := by kernel_rfl
theorem kq99 : goV Tryz.prog (cfg (memoL 8813272942592 kl98)) (tab (memoL 8813272942592 kl98)) 4000 34 [.agg [w424]] = some (.tup [.agg [w445], .i .i64 0, .s 0 0]) := by kernel_rfl
theorem kq100 : goV Tryz.prog (cfg (memoL 8813272942592 kl99)) (tab (memoL 8813272942592 kl99)) 4000 34 [.agg [w425]] = some (.tup [.agg [w447], .i .i64 0, .s 0 0]) := by kernel_rfl
theorem kq101 : goV Tryz.prog (cfg (memoL 8813272942592 kl100)) (tab (memoL 8813272942592 kl100)) 4000 34 [.agg [w426]] = some (.tup [.agg [w449], .i .i64 0, .s 0 0]) := by kernel_rfl
theorem kq102 : goV Tryz.prog (cfg (memoL 8813272942592 kl101)) (tab (memoL 8813272942592 kl101)) 4000 34 [.agg [w428]] = some (.tup [.agg [w451], .i .i64 0, .s 0 0]) := by kernel_rfl
theorem kq103 : goV Tryz.prog (cfg (memoL 8813272942592 kl102)) (tab (memoL 8813272942592 kl102)) 4000 34 [.agg [w429]] = some (.tup [.agg [w453], .i .i64 0, .s 0 0]) := by kernel_rfl
theorem kq104 : goV Tryz.prog (cfg (memoL 8813272942592 kl103)) (tab (memoL 8813272942592 kl103)) 4000 34 [.agg [w430]] = some (.tup [.agg [w455], .i .i64 0, .s 0 0]) := by kernel_rfl
theorem kq105 : goV Tryz.prog (cfg (memoL 8813272942592 kl104)) (tab (memoL 8813272942592 kl104)) 4000 34 [.agg [w431]] = some (.tup [.agg [w457], .i .i64 0, .s 0 0]) := by kernel_rfl
theorem kq106 : goV Tryz.prog (cfg (memoL 8813272942592 kl105)) (tab (memoL 8813272942592 kl105)) 4000 34 [.agg [w432]] = some (.tup [.agg [w459], .i .i64 0, .s 0 0]) := by kernel_rfl
theorem kq107 : goV Tryz.prog (cfg (memoL 8813272942592 kl106)) (tab (memoL 8813272942592 kl106)) 4000 34 [.agg [w434]] = some (.tup [.agg [w461], .i .i64 0, .s 0 0]) := by kernel_rfl
theorem kq108 : goV Tryz.prog (cfg (memoL 8813272942592 kl107)) (tab (memoL 8813272942592 kl107)) 4000 34 [.agg [w435]] = some (.tup [.agg [w463], .i .i64 0, .s 0 0]) := by kernel_rfl
theorem kq109 : goV Tryz.prog (cfg (memoL 8813272942592 kl108)) (tab (memoL 8813272942592 kl108)) 4000 34 [.agg [w436]] = some (.tup [.agg [w465], .i .i64 0, .s 0 0]) := by kernel_rfl
theorem kq110 : goV Tryz.prog (cfg (memoL 8813272942592 kl109)) (tab (memoL 8813272942592 kl109)) 4000 34 [.agg [w437]] = some (.tup [.agg [w467], .i .i64 0, .s 0 0]) := by kernel_rfl
end Go.Zev.Pn
