/-
  Printed by facts.py: closed calls and their answers.
-/
import Derived.Test.YtaoildofpnnaiaaGreatDoorK0
set_option maxRecDepth 20000
namespace Go.Zev.Cf
open Go Go.Zev Go.Proofs
theorem kq196 : qG kl195 51 [.agg [w366]] = some (.tup [.agg [w366], .i .i64 0, .s 0 0]) := by kernel_rfl
theorem kq197 : qG kl196 51 [.agg [w368]] = some (.tup [.agg [w368], .i .i64 0, .s 0 0]) := by kernel_rfl
theorem kq198 : qG kl197 175 [.agg [.b true, .s 3 7630441, .s 2 14710, w349]] = some (.b true) := by kernel_rfl
theorem kq199 : qG kl198 51 [.agg [w370]] = some (.tup [.agg [w370], .i .i64 0, .s 0 0]) := by kernel_rfl
theorem kq200 : qG kl199 51 [.agg [w372]] = some (.tup [.agg [w372], .i .i64 0, .s 0 0]) := by kernel_rfl
theorem kq201 : qG kl200 51 [.agg [w374]] = some (.tup [.agg [w374], .i .i64 0, .s 0 0]) := by kernel_rfl
theorem kq202 : qG kl201 51 [.agg [w376]] = some (.tup [.agg [w376], .i .i64 0, .s 0 0]) := by kernel_rfl
theorem kq203 : qG kl202 51 [.agg [w378]] = some (.tup [.agg [w378], .i .i64 0, .s 0 0]) := by kernel_rfl
theorem kq204 : qG kl203 51 [.agg [w380]] = some (.tup [.agg [w380], .i .i64 0, .s 0 0]) := by kernel_rfl
theorem kq205 : qG kl204 51 [.agg [w382]] = some (.tup [.agg [w382], .i .i64 0, .s 0 0]) := by kernel_rfl
theorem kq206 : qG kl205 51 [.agg [w384]] = some (.tup [.agg [w384], .i .i64 0, .s 0 0]) := by kernel_rfl
theorem kq207 : qG kl206 51 [.agg [w386]] = some (.tup [.agg [w386], .i .i64 0, .s 0 0]) := by kernel_rfl
theorem kq208 : qG kl207 51 [.agg [w388]] = some (.tup [.agg [w388], .i .i64 0, .s 0 0]) := by kernel_rfl
theorem kq209 : qG kl208 175 [.agg [.b false, .s 3 7630441, .s 2 14710, .nsl]] = some (.b true) := by kernel_rfl
theorem kq210 : qG kl209 51 [.agg [w390]] = some (.tup [.agg [w390], .i .i64 0, .s 0 0]) := by kernel_rfl
theorem kq211 : qG kl210 6 [w348] = some (.tup [w391, w392, .i .i64 0]) := by kernel_rfl
theorem kq212 : qG kl211 5 ka212 = some (.tup [w395, .i .i64 0, .i .i64 0]) := by kernel_rfl
theorem kq213 : qG kl212 175 [.agg [.b false, .s 3 7630441, .s 3 3158390, w393]] = some (.b true) := by kernel_rfl
theorem kq214 : qG kl213 51 [w395] = some (kr214) := by kernel_rfl
theorem kq215 : qG kl214 175 [.agg [.b false, .s 3 7630441, .s 3 3158390, w396]] = some (.b true) := by kernel_rfl
theorem kq216 : qG kl215 51 [.agg [w399]] = some (.tup [.agg [w399], .i .i64 0, .s 0 0]) := by kernel_rfl
theorem kq217 : qG kl216 51 [.agg [w401]] = some (.tup [.agg [w401], .i .i64 0, .s 0 0]) := by kernel_rfl
theorem kq218 : qG kl217 51 [.agg [w403]] = some (.tup [.agg [w403], .i .i64 0, .s 0 0]) := by kernel_rfl
theorem kq219 : qG kl218 51 [.agg [w405]] = some (.tup [.agg [w405], .i .i64 0, .s 0 0]) := by kernel_rfl
theorem kq220 : qG kl219 51 [.agg [w407]] = some (.tup [.agg [w407], .i .i64 0, .s 0 0]) := by kernel_rfl
theorem kq221 : qG kl220 51 [.agg [w409]] = some (.tup [.agg [w409], .i .i64 0, .s 0 0]) := by kernel_rfl
theorem kq222 : qG kl221 51 [.agg [w411]] = some (.tup [.agg [w411], .i .i64 0, .s 0 0]) := by kernel_rfl
theorem kq223 : qG kl222 51 [.agg [w413]] = some (.tup [.agg [w413], .i .i64 0, .s 0 0]) := by kernel_rfl
theorem kq224 : qG kl223 51 [.agg [w415]] = some (.tup [.agg [w415], .i .i64 0, .s 0 0]) := by kernel_rfl
theorem kq225 : qG kl224 51 [.agg [w417]] = some (.tup [.agg [w417], .i .i64 0, .s 0 0]) := by kernel_rfl
theorem kq226 : qG kl225 175 [.agg [.b true, .s 3 7630441, .s 3 3158390, w396]] = some (.b true) := by kernel_rfl
theorem kq227 : qG kl226 51 [.agg [w419]] = some (.tup [.agg [w419], .i .i64 0, .s 0 0]) := by kernel_rfl
theorem kq228 : qG kl227 51 [.agg [w421]] = some (.tup [.agg [w421], .i .i64 0, .s 0 0]) := by kernel_rfl
theorem kq229 : qG kl228 51 [.agg [w423]] = some (.tup [.agg [w423], .i .i64 0, .s 0 0]) := by kernel_rfl
theorem kq230 : qG kl229 51 [.agg [w425]] = some (.tup [.agg [w425], .i .i64 0, .s 0 0]) := by kernel_rfl
theorem kq231 : qG kl230 51 [.agg [w427]] = some (.tup [.agg [w427], .i .i64 0, .s 0 0]) := by kernel_rfl
theorem kq232 : qG kl231 51 [.agg [w429]] = some (.tup [.agg [w429], .i .i64 0, .s 0 0]) := by kernel_rfl
theorem kq233 : qG kl232 51 [.agg [w431]] = some (.tup [.agg [w431], .i .i64 0, .s 0 0]) := by kernel_rfl
theorem kq234 : qG kl233 51 [.agg [w433]] = some (.tup [.agg [w433], .i .i64 0, .s 0 0]) := by kernel_rfl
theorem kq235 : qG kl234 51 [.agg [w435]] = some (.tup [.agg [w435], .i .i64 0, .s 0 0]) := by kernel_rfl
theorem kq236 : qG kl235 51 [.agg [w437]] = some (.tup [.agg [w437], .i .i64 0, .s 0 0]) := by kernel_rfl
theorem kq237 : qG kl236 51 [.agg [w439]] = some (.tup [.agg [w439], .i .i64 0, .s 0 0]) := by kernel_rfl
theorem kq238 : qG kl237 175 [.agg [.b false, .s 3 7630441, .s 3 3158390, .nsl]] = some (.b true) := by kernel_rfl
theorem kq239 : qG kl238 51 [.agg [w441]] = some (.tup [.agg [w441], .i .i64 0, .s 0 0]) := by kernel_rfl
theorem kq240 : qG kl239 6 [w395] = some (.tup [w442, w443, .i .i64 0]) := by kernel_rfl
theorem kq241 : qG kl240 5 ka241 = some (.tup [w446, .i .i64 0, .i .i64 0]) := by kernel_rfl
theorem kq242 : qG kl241 175 [.agg [.b false, .s 3 7630441, .s 3 3223926, w444]] = some (.b true) := by kernel_rfl
theorem kq243 : qG kl242 51 [w446] = some (kr243) := by kernel_rfl
theorem kq244 : qG kl243 175 [.agg [.b false, .s 3 7630441, .s 3 3223926, w447]] = some (.b true) := by kernel_rfl
theorem kq245 : qG kl244 51 [.agg [w450]] = some (.tup [.agg [w450], .i .i64 0, .s 0 0]) := by kernel_rfl
theorem kq246 : qG kl245 51 [.agg [w452]] = some (.tup [.agg [w452], .i .i64 0, .s 0 0]) := by kernel_rfl
end Go.Zev.Cf
