/-
  Printed by facts.py: closed calls and their answers.
-/
import Derived.Test.YtaoildofpnnaiaaGreatDoorK0
set_option maxRecDepth 20000
namespace Go.Zev.Cf
open Go Go.Zev Go.Proofs
theorem kq30 : qG kl29 51 [w107] = some (w101) := by kernel_rfl
theorem kq31 : qG kl30 175 [.agg [.b false, .s 3 7630441, .s 1 120, .nsl]] = some (.b true) := by kernel_rfl
theorem kq32 : qG kl31 51 [.agg [w109]] = some (kr32) := by kernel_rfl
theorem kq33 : qG kl32 175 [.agg [.b true, .s 3 7630441, .s 1 115, .nsl]] = some (.b true) := by kernel_rfl
theorem kq34 : qG kl33 51 [.agg [w111]] = some (kr34) := by kernel_rfl
theorem kq35 : qG kl34 175 [.agg [.b false, .s 6 113723913172051, .s 1 119, .nsl]] = some (.b true) := by kernel_rfl
theorem kq36 : qG kl35 51 [.agg [w113]] = some (kr36) := by kernel_rfl
theorem kq37 : qG kl36 175 [.agg [.b true, .s 1 65, .s 1 122, .nsl]] = some (.b true) := by kernel_rfl
theorem kq38 : qG kl37 51 [.agg [w115]] = some (kr38) := by kernel_rfl
theorem kq39 : qG kl38 51 [.agg [w117]] = some (kr39) := by kernel_rfl
theorem kq40 : qG kl39 6 [w24] = some (.tup [w123, w124, .i .i64 0]) := by kernel_rfl
theorem kq41 : qG kl40 8 [] = some (.b true) := by kernel_rfl
theorem kq42 : qG kl41 51 [w125] = some (.tup [w125, .i .i64 0, .s 0 0]) := by kernel_rfl
theorem kq43 : qG kl42 175 [.agg [.b false, .s 3 7630441, .s 2 12406, w126]] = some (.b true) := by kernel_rfl
theorem kq44 : qG kl43 51 ka44 = some (w128) := by kernel_rfl
theorem kq45 : qG kl44 175 [.agg [.b true, .s 3 7630441, .s 2 12406, w127]] = some (.b true) := by kernel_rfl
theorem kq46 : qG kl45 51 [w129] = some (.tup [w129, .i .i64 0, .s 0 0]) := by kernel_rfl
theorem kq47 : qG kl46 175 [.agg [.b false, .s 3 7630441, .s 2 12406, .nsl]] = some (.b true) := by kernel_rfl
theorem kq48 : qG kl47 51 [w130] = some (.tup [w130, .i .i64 0, .s 0 0]) := by kernel_rfl
theorem kq49 : qG kl48 175 [.agg [.b false, .s 3 7630441, .s 2 12662, w2]] = some (.b true) := by kernel_rfl
theorem kq50 : qG kl49 51 [.agg [w131]] = some (.tup [.agg [w132], .i .i64 0, .s 0 0]) := by kernel_rfl
theorem kq51 : qG kl50 175 [.agg [.b false, .s 3 7630441, .s 2 12662, w41]] = some (.b true) := by kernel_rfl
theorem kq52 : qG kl51 51 [.agg [w133]] = some (.tup [.agg [w133], .i .i64 0, .s 0 0]) := by kernel_rfl
theorem kq53 : qG kl52 175 [.agg [.b false, .s 3 7630441, .s 2 12406, w127]] = some (.b true) := by kernel_rfl
theorem kq54 : qG kl53 175 [.agg [.b true, .s 3 7630441, .s 2 12662, w41]] = some (.b true) := by kernel_rfl
theorem kq55 : qG kl54 51 [.agg [w134]] = some (.tup [.agg [w134], .i .i64 0, .s 0 0]) := by kernel_rfl
theorem kq56 : qG kl55 51 [.agg [w135]] = some (.tup [.agg [w135], .i .i64 0, .s 0 0]) := by kernel_rfl
theorem kq57 : qG kl56 175 [.agg [.b false, .s 3 7630441, .s 2 12662, .nsl]] = some (.b true) := by kernel_rfl
theorem kq58 : qG kl57 51 [.agg [w136]] = some (.tup [.agg [w136], .i .i64 0, .s 0 0]) := by kernel_rfl
theorem kq59 : qG kl58 175 [.agg [.b false, .s 3 7630441, .s 2 12918, w3]] = some (.b true) := by kernel_rfl
theorem kq60 : qG kl59 51 [.agg [.fs 4 false [[.s 1 65, .s 0 0, w137, .nsl]]]] = some (kr60) := by kernel_rfl
theorem kq61 : qG kl60 175 [.agg [.b false, .s 3 7630441, .s 2 12918, w42]] = some (.b true) := by kernel_rfl
theorem kq62 : qG kl61 51 [w140] = some (.tup [w140, .i .i64 0, .s 0 0]) := by kernel_rfl
theorem kq63 : qG kl62 51 [w142] = some (.tup [w142, .i .i64 0, .s 0 0]) := by kernel_rfl
theorem kq64 : qG kl63 175 [.agg [.b true, .s 3 7630441, .s 2 12918, w42]] = some (.b true) := by kernel_rfl
theorem kq65 : qG kl64 51 [w144] = some (.tup [w144, .i .i64 0, .s 0 0]) := by kernel_rfl
theorem kq66 : qG kl65 51 [w146] = some (.tup [w146, .i .i64 0, .s 0 0]) := by kernel_rfl
theorem kq67 : qG kl66 51 [w148] = some (.tup [w148, .i .i64 0, .s 0 0]) := by kernel_rfl
theorem kq68 : qG kl67 175 [.agg [.b false, .s 3 7630441, .s 2 12918, .nsl]] = some (.b true) := by kernel_rfl
theorem kq69 : qG kl68 51 [w150] = some (.tup [w150, .i .i64 0, .s 0 0]) := by kernel_rfl
theorem kq70 : qG kl69 175 [.agg [.b false, .s 3 7630441, .s 2 13174, w151]] = some (.b true) := by kernel_rfl
theorem kq71 : qG kl70 51 [.agg [.fs 4 false [[.s 1 65, .s 0 0, w152, .nsl]]]] = some (kr71) := by kernel_rfl
theorem kq72 : qG kl71 175 [.agg [.b false, .s 3 7630441, .s 2 13174, w153]] = some (.b true) := by kernel_rfl
theorem kq73 : qG kl72 51 [w156] = some (.tup [w156, .i .i64 0, .s 0 0]) := by kernel_rfl
theorem kq74 : qG kl73 51 [w158] = some (.tup [w158, .i .i64 0, .s 0 0]) := by kernel_rfl
theorem kq75 : qG kl74 51 [w160] = some (.tup [w160, .i .i64 0, .s 0 0]) := by kernel_rfl
theorem kq76 : qG kl75 175 [.agg [.b true, .s 3 7630441, .s 2 13174, w153]] = some (.b true) := by kernel_rfl
theorem kq77 : qG kl76 51 [w162] = some (.tup [w162, .i .i64 0, .s 0 0]) := by kernel_rfl
theorem kq78 : qG kl77 51 [w164] = some (.tup [w164, .i .i64 0, .s 0 0]) := by kernel_rfl
theorem kq79 : qG kl78 51 [w166] = some (.tup [w166, .i .i64 0, .s 0 0]) := by kernel_rfl
theorem kq80 : qG kl79 51 [w168] = some (.tup [w168, .i .i64 0, .s 0 0]) := by kernel_rfl
theorem kq81 : qG kl80 175 [.agg [.b false, .s 3 7630441, .s 2 13174, .nsl]] = some (.b true) := by kernel_rfl
theorem kq82 : qG kl81 51 [w170] = some (.tup [w170, .i .i64 0, .s 0 0]) := by kernel_rfl
theorem kq83 : qG kl82 175 [.agg [.b false, .s 3 7630441, .s 2 13430, w171]] = some (.b true) := by kernel_rfl
theorem kq84 : qG kl83 51 [w173] = some (kr84) := by kernel_rfl
theorem kq85 : qG kl84 175 [.agg [.b false, .s 3 7630441, .s 2 13430, w174]] = some (.b true) := by kernel_rfl
theorem kq86 : qG kl85 51 [.agg [w177]] = some (.tup [.agg [w177], .i .i64 0, .s 0 0]) := by kernel_rfl
theorem kq87 : qG kl86 51 [.agg [w179]] = some (.tup [.agg [w179], .i .i64 0, .s 0 0]) := by kernel_rfl
theorem kq88 : qG kl87 51 [.agg [w181]] = some (.tup [.agg [w181], .i .i64 0, .s 0 0]) := by kernel_rfl
theorem kq89 : qG kl88 51 [.agg [w183]] = some (.tup [.agg [w183], .i .i64 0, .s 0 0]) := by kernel_rfl
theorem kq90 : qG kl89 175 [.agg [.b true, .s 3 7630441, .s 2 13430, w174]] = some (.b true) := by kernel_rfl
theorem kq91 : qG kl90 51 [.agg [w185]] = some (.tup [.agg [w185], .i .i64 0, .s 0 0]) := by kernel_rfl
theorem kq92 : qG kl91 51 [.agg [w187]] = some (.tup [.agg [w187], .i .i64 0, .s 0 0]) := by kernel_rfl
theorem kq93 : qG kl92 51 [.agg [w189]] = some (.tup [.agg [w189], .i .i64 0, .s 0 0]) := by kernel_rfl
theorem kq94 : qG kl93 51 [.agg [w191]] = some (.tup [.agg [w191], .i .i64 0, .s 0 0]) := by kernel_rfl
theorem kq95 : qG kl94 51 [.agg [w193]] = some (.tup [.agg [w193], .i .i64 0, .s 0 0]) := by kernel_rfl
theorem kq96 : qG kl95 175 [.agg [.b false, .s 3 7630441, .s 2 13430, .nsl]] = some (.b true) := by kernel_rfl
theorem kq97 : qG kl96 51 [.agg [w195]] = some (.tup [.agg [w195], .i .i64 0, .s 0 0]) := by kernel_rfl
theorem kq98 : qG kl97 6 [w173] = some (.tup [w196, w197, .i .i64 0]) := by kernel_rfl
theorem kq99 : qG kl98 175 [.agg [.b false, .s 3 7630441, .s 2 13686, w198]] = some (.b true) := by kernel_rfl
theorem kq100 : qG kl99 51 [w200] = some (kr100) := by kernel_rfl
theorem kq101 : qG kl100 175 [.agg [.b false, .s 3 7630441, .s 2 13686, w201]] = some (.b true) := by kernel_rfl
theorem kq102 : qG kl101 51 [.agg [w204]] = some (.tup [.agg [w204], .i .i64 0, .s 0 0]) := by kernel_rfl
theorem kq103 : qG kl102 51 [.agg [w206]] = some (.tup [.agg [w206], .i .i64 0, .s 0 0]) := by kernel_rfl
theorem kq104 : qG kl103 51 [.agg [w208]] = some (.tup [.agg [w208], .i .i64 0, .s 0 0]) := by kernel_rfl
theorem kq105 : qG kl104 51 [.agg [w210]] = some (.tup [.agg [w210], .i .i64 0, .s 0 0]) := by kernel_rfl
theorem kq106 : qG kl105 51 [.agg [w212]] = some (.tup [.agg [w212], .i .i64 0, .s 0 0]) := by kernel_rfl
theorem kq107 : qG kl106 175 [.agg [.b true, .s 3 7630441, .s 2 13686, w201]] = some (.b true) := by kernel_rfl
theorem kq108 : qG kl107 51 [.agg [w214]] = some (.tup [.agg [w214], .i .i64 0, .s 0 0]) := by kernel_rfl
theorem kq109 : qG kl108 51 [.agg [w216]] = some (.tup [.agg [w216], .i .i64 0, .s 0 0]) := by kernel_rfl
theorem kq110 : qG kl109 51 [.agg [w218]] = some (.tup [.agg [w218], .i .i64 0, .s 0 0]) := by kernel_rfl
theorem kq111 : qG kl110 51 [.agg [w220]] = some (.tup [.agg [w220], .i .i64 0, .s 0 0]) := by kernel_rfl
theorem kq112 : qG kl111 51 [.agg [w222]] = some (.tup [.agg [w222], .i .i64 0, .s 0 0]) := by kernel_rfl
theorem kq113 : qG kl112 51 [.agg [w224]] = some (.tup [.agg [w224], .i .i64 0, .s 0 0]) := by kernel_rfl
theorem kq114 : qG kl113 175 [.agg [.b false, .s 3 7630441, .s 2 13686, .nsl]] = some (.b true) := by kernel_rfl
theorem kq115 : qG kl114 51 [.agg [w226]] = some (.tup [.agg [w226], .i .i64 0, .s 0 0]) := by kernel_rfl
theorem kq116 : qG kl115 6 [w200] = some (.tup [w227, w228, .i .i64 0]) := by kernel_rfl
theorem kq117 : qG kl116 175 [.agg [.b false, .s 3 7630441, .s 2 13942, w229]] = some (.b true) := by kernel_rfl
theorem kq118 : qG kl117 51 [w231] = some (kr118) := by kernel_rfl
theorem kq119 : qG kl118 175 [.agg [.b false, .s 3 7630441, .s 2 13942, w232]] = some (.b true) := by kernel_rfl
end Go.Zev.Cf
