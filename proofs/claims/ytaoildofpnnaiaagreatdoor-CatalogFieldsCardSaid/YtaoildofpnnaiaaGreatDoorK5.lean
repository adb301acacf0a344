/-
  Printed by facts.py: closed calls and their answers.
-/
import Derived.Test.YtaoildofpnnaiaaGreatDoorK0
set_option maxRecDepth 20000
namespace Go.Zev.Cf
open Go Go.Zev Go.Proofs
theorem kq247 : qG kl246 51 [.agg [w454]] = some (.tup [.agg [w454], .i .i64 0, .s 0 0]) := by kernel_rfl
theorem kq248 : qG kl247 51 [.agg [w456]] = some (.tup [.agg [w456], .i .i64 0, .s 0 0]) := by kernel_rfl
theorem kq249 : qG kl248 51 [.agg [w458]] = some (.tup [.agg [w458], .i .i64 0, .s 0 0]) := by kernel_rfl
theorem kq250 : qG kl249 51 [.agg [w460]] = some (.tup [.agg [w460], .i .i64 0, .s 0 0]) := by kernel_rfl
theorem kq251 : qG kl250 51 [.agg [w462]] = some (.tup [.agg [w462], .i .i64 0, .s 0 0]) := by kernel_rfl
theorem kq252 : qG kl251 51 [.agg [w464]] = some (.tup [.agg [w464], .i .i64 0, .s 0 0]) := by kernel_rfl
theorem kq253 : qG kl252 51 [.agg [w466]] = some (.tup [.agg [w466], .i .i64 0, .s 0 0]) := by kernel_rfl
theorem kq254 : qG kl253 51 [.agg [w468]] = some (.tup [.agg [w468], .i .i64 0, .s 0 0]) := by kernel_rfl
theorem kq255 : qG kl254 51 [.agg [w470]] = some (.tup [.agg [w470], .i .i64 0, .s 0 0]) := by kernel_rfl
theorem kq256 : qG kl255 175 [.agg [.b true, .s 3 7630441, .s 3 3223926, w447]] = some (.b true) := by kernel_rfl
theorem kq257 : qG kl256 51 [.agg [w472]] = some (.tup [.agg [w472], .i .i64 0, .s 0 0]) := by kernel_rfl
theorem kq258 : qG kl257 51 [.agg [w474]] = some (.tup [.agg [w474], .i .i64 0, .s 0 0]) := by kernel_rfl
theorem kq259 : qG kl258 51 [.agg [w476]] = some (.tup [.agg [w476], .i .i64 0, .s 0 0]) := by kernel_rfl
theorem kq260 : qG kl259 51 [.agg [w478]] = some (.tup [.agg [w478], .i .i64 0, .s 0 0]) := by kernel_rfl
theorem kq261 : qG kl260 51 [.agg [w480]] = some (.tup [.agg [w480], .i .i64 0, .s 0 0]) := by kernel_rfl
theorem kq262 : qG kl261 51 [.agg [w482]] = some (.tup [.agg [w482], .i .i64 0, .s 0 0]) := by kernel_rfl
theorem kq263 : qG kl262 51 [.agg [w484]] = some (.tup [.agg [w484], .i .i64 0, .s 0 0]) := by kernel_rfl
theorem kq264 : qG kl263 51 [.agg [w486]] = some (.tup [.agg [w486], .i .i64 0, .s 0 0]) := by kernel_rfl
theorem kq265 : qG kl264 51 [.agg [w488]] = some (.tup [.agg [w488], .i .i64 0, .s 0 0]) := by kernel_rfl
theorem kq266 : qG kl265 51 [.agg [w490]] = some (.tup [.agg [w490], .i .i64 0, .s 0 0]) := by kernel_rfl
theorem kq267 : qG kl266 51 [.agg [w492]] = some (.tup [.agg [w492], .i .i64 0, .s 0 0]) := by kernel_rfl
theorem kq268 : qG kl267 51 [.agg [w494]] = some (.tup [.agg [w494], .i .i64 0, .s 0 0]) := by kernel_rfl
theorem kq269 : qG kl268 175 [.agg [.b false, .s 3 7630441, .s 3 3223926, .nsl]] = some (.b true) := by kernel_rfl
theorem kq270 : qG kl269 51 [.agg [w496]] = some (.tup [.agg [w496], .i .i64 0, .s 0 0]) := by kernel_rfl
theorem kq271 : qG kl270 6 [w446] = some (.tup [w497, w498, .i .i64 0]) := by kernel_rfl
end Go.Zev.Cf
