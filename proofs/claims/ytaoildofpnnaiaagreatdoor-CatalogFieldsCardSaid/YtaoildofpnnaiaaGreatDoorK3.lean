/-
  Printed by facts.py: closed calls and their answers.
-/
import Derived.Test.YtaoildofpnnaiaaGreatDoorK0
set_option maxRecDepth 20000
namespace Go.Zev.Cf
open Go Go.Zev Go.Proofs
theorem kq120 : qG kl119 51 [.agg [w235]] = some (.tup [.agg [w235], .i .i64 0, .s 0 0]) := by kernel_rfl
theorem kq121 : qG kl120 51 [.agg [w237]] = some (.tup [.agg [w237], .i .i64 0, .s 0 0]) := by kernel_rfl
theorem kq122 : qG kl121 51 [.agg [w239]] = some (.tup [.agg [w239], .i .i64 0, .s 0 0]) := by kernel_rfl
theorem kq123 : qG kl122 51 [.agg [w241]] = some (.tup [.agg [w241], .i .i64 0, .s 0 0]) := by kernel_rfl
theorem kq124 : qG kl123 51 [.agg [w243]] = some (.tup [.agg [w243], .i .i64 0, .s 0 0]) := by kernel_rfl
theorem kq125 : qG kl124 51 [.agg [w245]] = some (.tup [.agg [w245], .i .i64 0, .s 0 0]) := by kernel_rfl
theorem kq126 : qG kl125 175 [.agg [.b true, .s 3 7630441, .s 2 13942, w232]] = some (.b true) := by kernel_rfl
theorem kq127 : qG kl126 51 [.agg [w247]] = some (.tup [.agg [w247], .i .i64 0, .s 0 0]) := by kernel_rfl
theorem kq128 : qG kl127 51 [.agg [w249]] = some (.tup [.agg [w249], .i .i64 0, .s 0 0]) := by kernel_rfl
theorem kq129 : qG kl128 51 [.agg [w251]] = some (.tup [.agg [w251], .i .i64 0, .s 0 0]) := by kernel_rfl
theorem kq130 : qG kl129 51 [.agg [w253]] = some (.tup [.agg [w253], .i .i64 0, .s 0 0]) := by kernel_rfl
theorem kq131 : qG kl130 51 [.agg [w255]] = some (.tup [.agg [w255], .i .i64 0, .s 0 0]) := by kernel_rfl
theorem kq132 : qG kl131 51 [.agg [w257]] = some (.tup [.agg [w257], .i .i64 0, .s 0 0]) := by kernel_rfl
theorem kq133 : qG kl132 51 [.agg [w259]] = some (.tup [.agg [w259], .i .i64 0, .s 0 0]) := by kernel_rfl
theorem kq134 : qG kl133 175 [.agg [.b false, .s 3 7630441, .s 2 13942, .nsl]] = some (.b true) := by kernel_rfl
theorem kq135 : qG kl134 51 [.agg [w261]] = some (.tup [.agg [w261], .i .i64 0, .s 0 0]) := by kernel_rfl
theorem kq136 : qG kl135 6 [w231] = some (.tup [w262, w263, .i .i64 0]) := by kernel_rfl
theorem kq137 : qG kl136 5 ka137 = some (.tup [w266, .i .i64 0, .i .i64 0]) := by kernel_rfl
theorem kq138 : qG kl137 175 [.agg [.b false, .s 3 7630441, .s 2 14198, w264]] = some (.b true) := by kernel_rfl
theorem kq139 : qG kl138 51 [w266] = some (kr139) := by kernel_rfl
theorem kq140 : qG kl139 175 [.agg [.b false, .s 3 7630441, .s 2 14198, w267]] = some (.b true) := by kernel_rfl
theorem kq141 : qG kl140 51 [.agg [w270]] = some (.tup [.agg [w270], .i .i64 0, .s 0 0]) := by kernel_rfl
theorem kq142 : qG kl141 51 [.agg [w272]] = some (.tup [.agg [w272], .i .i64 0, .s 0 0]) := by kernel_rfl
theorem kq143 : qG kl142 51 [.agg [w274]] = some (.tup [.agg [w274], .i .i64 0, .s 0 0]) := by kernel_rfl
theorem kq144 : qG kl143 51 [.agg [w276]] = some (.tup [.agg [w276], .i .i64 0, .s 0 0]) := by kernel_rfl
theorem kq145 : qG kl144 51 [.agg [w278]] = some (.tup [.agg [w278], .i .i64 0, .s 0 0]) := by kernel_rfl
theorem kq146 : qG kl145 51 [.agg [w280]] = some (.tup [.agg [w280], .i .i64 0, .s 0 0]) := by kernel_rfl
theorem kq147 : qG kl146 51 [.agg [w282]] = some (.tup [.agg [w282], .i .i64 0, .s 0 0]) := by kernel_rfl
theorem kq148 : qG kl147 175 [.agg [.b true, .s 3 7630441, .s 2 14198, w267]] = some (.b true) := by kernel_rfl
theorem kq149 : qG kl148 51 [.agg [w284]] = some (.tup [.agg [w284], .i .i64 0, .s 0 0]) := by kernel_rfl
theorem kq150 : qG kl149 51 [.agg [w286]] = some (.tup [.agg [w286], .i .i64 0, .s 0 0]) := by kernel_rfl
theorem kq151 : qG kl150 51 [.agg [w288]] = some (.tup [.agg [w288], .i .i64 0, .s 0 0]) := by kernel_rfl
theorem kq152 : qG kl151 51 [.agg [w290]] = some (.tup [.agg [w290], .i .i64 0, .s 0 0]) := by kernel_rfl
theorem kq153 : qG kl152 51 [.agg [w292]] = some (.tup [.agg [w292], .i .i64 0, .s 0 0]) := by kernel_rfl
theorem kq154 : qG kl153 51 [.agg [w294]] = some (.tup [.agg [w294], .i .i64 0, .s 0 0]) := by kernel_rfl
theorem kq155 : qG kl154 51 [.agg [w296]] = some (.tup [.agg [w296], .i .i64 0, .s 0 0]) := by kernel_rfl
theorem kq156 : qG kl155 51 [.agg [w298]] = some (.tup [.agg [w298], .i .i64 0, .s 0 0]) := by kernel_rfl
theorem kq157 : qG kl156 175 [.agg [.b false, .s 3 7630441, .s 2 14198, .nsl]] = some (.b true) := by kernel_rfl
theorem kq158 : qG kl157 51 [.agg [w300]] = some (.tup [.agg [w300], .i .i64 0, .s 0 0]) := by kernel_rfl
theorem kq159 : qG kl158 6 [w266] = some (.tup [w301, w302, .i .i64 0]) := by kernel_rfl
theorem kq160 : qG kl159 5 ka160 = some (.tup [w305, .i .i64 0, .i .i64 0]) := by kernel_rfl
theorem kq161 : qG kl160 175 [.agg [.b false, .s 3 7630441, .s 2 14454, w303]] = some (.b true) := by kernel_rfl
theorem kq162 : qG kl161 51 [w305] = some (kr162) := by kernel_rfl
theorem kq163 : qG kl162 175 [.agg [.b false, .s 3 7630441, .s 2 14454, w306]] = some (.b true) := by kernel_rfl
theorem kq164 : qG kl163 51 [.agg [w309]] = some (.tup [.agg [w309], .i .i64 0, .s 0 0]) := by kernel_rfl
theorem kq165 : qG kl164 51 [.agg [w311]] = some (.tup [.agg [w311], .i .i64 0, .s 0 0]) := by kernel_rfl
theorem kq166 : qG kl165 51 [.agg [w313]] = some (.tup [.agg [w313], .i .i64 0, .s 0 0]) := by kernel_rfl
theorem kq167 : qG kl166 51 [.agg [w315]] = some (.tup [.agg [w315], .i .i64 0, .s 0 0]) := by kernel_rfl
theorem kq168 : qG kl167 51 [.agg [w317]] = some (.tup [.agg [w317], .i .i64 0, .s 0 0]) := by kernel_rfl
theorem kq169 : qG kl168 51 [.agg [w319]] = some (.tup [.agg [w319], .i .i64 0, .s 0 0]) := by kernel_rfl
theorem kq170 : qG kl169 51 [.agg [w321]] = some (.tup [.agg [w321], .i .i64 0, .s 0 0]) := by kernel_rfl
theorem kq171 : qG kl170 51 [.agg [w323]] = some (.tup [.agg [w323], .i .i64 0, .s 0 0]) := by kernel_rfl
theorem kq172 : qG kl171 175 [.agg [.b true, .s 3 7630441, .s 2 14454, w306]] = some (.b true) := by kernel_rfl
theorem kq173 : qG kl172 51 [.agg [w325]] = some (.tup [.agg [w325], .i .i64 0, .s 0 0]) := by kernel_rfl
theorem kq174 : qG kl173 51 [.agg [w327]] = some (.tup [.agg [w327], .i .i64 0, .s 0 0]) := by kernel_rfl
theorem kq175 : qG kl174 51 [.agg [w329]] = some (.tup [.agg [w329], .i .i64 0, .s 0 0]) := by kernel_rfl
theorem kq176 : qG kl175 51 [.agg [w331]] = some (.tup [.agg [w331], .i .i64 0, .s 0 0]) := by kernel_rfl
theorem kq177 : qG kl176 51 [.agg [w333]] = some (.tup [.agg [w333], .i .i64 0, .s 0 0]) := by kernel_rfl
theorem kq178 : qG kl177 51 [.agg [w335]] = some (.tup [.agg [w335], .i .i64 0, .s 0 0]) := by kernel_rfl
theorem kq179 : qG kl178 51 [.agg [w337]] = some (.tup [.agg [w337], .i .i64 0, .s 0 0]) := by kernel_rfl
theorem kq180 : qG kl179 51 [.agg [w339]] = some (.tup [.agg [w339], .i .i64 0, .s 0 0]) := by kernel_rfl
theorem kq181 : qG kl180 51 [.agg [w341]] = some (.tup [.agg [w341], .i .i64 0, .s 0 0]) := by kernel_rfl
theorem kq182 : qG kl181 175 [.agg [.b false, .s 3 7630441, .s 2 14454, .nsl]] = some (.b true) := by kernel_rfl
theorem kq183 : qG kl182 51 [.agg [w343]] = some (.tup [.agg [w343], .i .i64 0, .s 0 0]) := by kernel_rfl
theorem kq184 : qG kl183 6 [w305] = some (.tup [w344, w345, .i .i64 0]) := by kernel_rfl
theorem kq185 : qG kl184 5 ka185 = some (.tup [w348, .i .i64 0, .i .i64 0]) := by kernel_rfl
theorem kq186 : qG kl185 175 [.agg [.b false, .s 3 7630441, .s 2 14710, w346]] = some (.b true) := by kernel_rfl
theorem kq187 : qG kl186 51 [w348] = some (kr187) := by kernel_rfl
theorem kq188 : qG kl187 175 [.agg [.b false, .s 3 7630441, .s 2 14710, w349]] = some (.b true) := by kernel_rfl
theorem kq189 : qG kl188 51 [.agg [w352]] = some (.tup [.agg [w352], .i .i64 0, .s 0 0]) := by kernel_rfl
theorem kq190 : qG kl189 51 [.agg [w354]] = some (.tup [.agg [w354], .i .i64 0, .s 0 0]) := by kernel_rfl
theorem kq191 : qG kl190 51 [.agg [w356]] = some (.tup [.agg [w356], .i .i64 0, .s 0 0]) := by kernel_rfl
theorem kq192 : qG kl191 51 [.agg [w358]] = some (.tup [.agg [w358], .i .i64 0, .s 0 0]) := by kernel_rfl
theorem kq193 : qG kl192 51 [.agg [w360]] = some (.tup [.agg [w360], .i .i64 0, .s 0 0]) := by kernel_rfl
theorem kq194 : qG kl193 51 [.agg [w362]] = some (.tup [.agg [w362], .i .i64 0, .s 0 0]) := by kernel_rfl
theorem kq195 : qG kl194 51 [.agg [w364]] = some (.tup [.agg [w364], .i .i64 0, .s 0 0]) := by kernel_rfl
end Go.Zev.Cf
