/-
  Printed by facts.py: closed calls and their answers.
-/
import Derived.Test.YtkhhemkkgblgiaaGreatDoorK0
set_option maxRecDepth 20000
namespace Go.Zev.Pn
open Go Go.Zev Go.Proofs
theorem kq192 : goV Tryz.prog (cfg (memoL 8813272942592 kl191)) (tab (memoL 8813272942592 kl191)) 4000 34 [.agg [w688]] = some (.tup [.agg [w690], .i .i64 0, .s 0 0]) := by kernel_rfl
theorem kq193 : goV Tryz.prog (cfg (memoL 8813272942592 kl192)) (tab (memoL 8813272942592 kl192)) 4000 34 [.agg [w691]] = some (.tup [.agg [w693], .i .i64 0, .s 0 0]) := by kernel_rfl
theorem kq194 : goV Tryz.prog (cfg (memoL 8813272942592 kl193)) (tab (memoL 8813272942592 kl193)) 4000 34 [.agg [w694]] = some (.tup [.agg [w696], .i .i64 0, .s 0 0]) := by kernel_rfl
theorem kq195 : goV Tryz.prog (cfg (memoL 8813272942592 kl194)) (tab (memoL 8813272942592 kl194)) 4000 34 [.agg [w698]] = some (.tup [.agg [w700], .i .i64 0, .s 0 0]) := by kernel_rfl
theorem kq196 : goV Tryz.prog (cfg (memoL 8813272942592 kl195)) (tab (memoL 8813272942592 kl195)) 4000 34 [.agg [w701]] = some (.tup [.agg [w703], .i .i64 0, .s 0 0]) := by kernel_rfl
theorem kq197 : goV Tryz.prog (cfg (memoL 8813272942592 kl196)) (tab (memoL 8813272942592 kl196)) 4000 34 [.agg [w704]] = some (.tup [.agg [w706], .i .i64 0, .s 0 0]) := by kernel_rfl
theorem kq198 : goV Tryz.prog (cfg (memoL 8813272942592 kl197)) (tab (memoL 8813272942592 kl197)) 4000 34 [.agg [w708]] = some (.tup [.agg [w710], .i .i64 0, .s 0 0]) := by kernel_rfl
theorem kq199 : goV Tryz.prog (cfg (memoL 8813272942592 kl198)) (tab (memoL 8813272942592 kl198)) 4000 15 ka199 = some (.tup [.agg [w711], .i .i64 0, .i .i64 0]) := by kernel_rfl
theorem kq200 : goV Tryz.prog (cfg (memoL 8813272942592 kl199)) (tab (memoL 8813272942592 kl199)) 4000 43 [.agg [w711]] = some (.tup [.agg [w712], .i .i64 0, .s 0 0]) := by kernel_rfl
theorem kq201 : goV Tryz.prog (cfg (memoL 8813272942592 kl200)) (tab (memoL 8813272942592 kl200)) 4000 11 [.agg [w711], .s 3 4410960] = some (w729) := by kernel_rfl
theorem kq202 : goV Tryz.prog (cfg (memoL 8813272942592 kl201)) (tab (memoL 8813272942592 kl201)) 4000 34 [.agg [w713]] = some (.tup [.agg [w730], .i .i64 0, .s 0 0]) := by kernel_rfl
theorem kq203 : goV Tryz.prog (cfg (memoL 8813272942592 kl202)) (tab (memoL 8813272942592 kl202)) 4000 34 [.agg [w714]] = some (.tup [.agg [w731], .i .i64 0, .s 0 0]) := by kernel_rfl
theorem kq204 : goV Tryz.prog (cfg (memoL 8813272942592 kl203)) (tab (memoL 8813272942592 kl203)) 4000 34 [.agg [w716]] = some (.tup [.agg [w733], .i .i64 0, .s 0 0]) := by kernel_rfl
theorem kq205 : goV Tryz.prog (cfg (memoL 8813272942592 kl204)) (tab (memoL 8813272942592 kl204)) 4000 34 [.agg [w717]] = some (.tup [.agg [w734], .i .i64 0, .s 0 0]) := by kernel_rfl
theorem kq206 : goV Tryz.prog (cfg (memoL 8813272942592 kl205)) (tab (memoL 8813272942592 kl205)) 4000 34 [.agg [w718]] = some (.tup [.agg [w735], .i .i64 0, .s 0 0]) := by kernel_rfl
theorem kq207 : goV Tryz.prog (cfg (memoL 8813272942592 kl206)) (tab (memoL 8813272942592 kl206)) 4000 34 [.agg [w720]] = some (.tup [.agg [w737], .i .i64 0, .s 0 0]) := by kernel_rfl
theorem kq208 : goV Tryz.prog (cfg (memoL 8813272942592 kl207)) (tab (memoL 8813272942592 kl207)) 4000 34 [.agg [w721]] = some (.tup [.agg [w738], .i .i64 0, .s 0 0]) := by kernel_rfl
theorem kq209 : goV Tryz.prog (cfg (memoL 8813272942592 kl208)) (tab (memoL 8813272942592 kl208)) 4000 34 [.agg [w722]] = some (.tup [.agg [w739], .i .i64 0, .s 0 0]) := by kernel_rfl
theorem kq210 : goV Tryz.prog (cfg (memoL 8813272942592 kl209)) (tab (memoL 8813272942592 kl209)) 4000 34 [.agg [w724]] = some (.tup [.agg [w741], .i .i64 0, .s 0 0]) := by kernel_rfl
theorem kq211 : goV Tryz.prog (cfg (memoL 8813272942592 kl210)) (tab (memoL 8813272942592 kl210)) 4000 34 [.agg [w725]] = some (.tup [.agg [w742], .i .i64 0, .s 0 0]) := by kernel_rfl
theorem kq212 : goV Tryz.prog (cfg (memoL 8813272942592 kl211)) (tab (memoL 8813272942592 kl211)) 4000 34 [.agg [w726]] = some (.tup [.agg [w743], .i .i64 0, .s 0 0]) := by kernel_rfl
theorem kq213 : goV Tryz.prog (cfg (memoL 8813272942592 kl212)) (tab (memoL 8813272942592 kl212)) 4000 34 [.agg [w728]] = some (.tup [.agg [w745], .i .i64 0, .s 0 0]) := by kernel_rfl
theorem kq214 : goV Tryz.prog (cfg (memoL 8813272942592 kl213)) (tab (memoL 8813272942592 kl213)) 4000 43 [.agg [w746]] = some (.tup [.agg [w747], .i .i64 0, .s 0 0]) := by kernel_rfl
theorem kq215 : goV Tryz.prog (cfg (memoL 8813272942592 kl214)) (tab (memoL 8813272942592 kl214)) 4000 43 [.agg [w748]] = some (.tup [.agg [w750], .i .i64 0, .s 0 0]) := by kernel_rfl
theorem kq216 : goV Tryz.prog (cfg (memoL 8813272942592 kl215)) (tab (memoL 8813272942592 kl215)) 4000 34 [.agg [w751]] = some (.tup [.agg [w753], .i .i64 0, .s 0 0]) := by kernel_rfl
theorem kq217 : goV Tryz.prog (cfg (memoL 8813272942592 kl216)) (tab (memoL 8813272942592 kl216)) 4000 34 [.agg [w755]] = some (.tup [.agg [w757], .i .i64 0, .s 0 0]) := by kernel_rfl
end Go.Zev.Pn
