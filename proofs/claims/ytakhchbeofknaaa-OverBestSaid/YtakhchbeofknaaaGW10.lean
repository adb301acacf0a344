/-
  Printed by ob.py: choices of heads; what is known of each; its ways.
-/
import Derived.Test.YtakhchbeofknaaaGF
set_option linter.unusedVariables false
set_option maxRecDepth 20000
namespace Go.Zev.Ob
open Go Go.Zev Go.Proofs
noncomputable def b152 : List Bool := [false, false, false, true, true, false, false, true, false]
noncomputable def p152 : AV := pOf (.fs 6 false [r3, r4, r7])
noncomputable def k152 : List Known := [rE p152 0 r3, rE p152 1 r4, rE p152 2 r7, aE p152 a3]
theorem w152 (x y z : Int) : Way x y z b152 := ⟨p152, k152, fun z => fb (by kernel_rfl) (by kernel_rfl) rfl, runs_ok (by kernel_rfl), by kernel_rfl⟩
noncomputable def b153 : List Bool := [true, false, false, true, true, false, false, true, false]
noncomputable def p153 : AV := pOf (.fs 6 false [r0, r3, r4, r7])
noncomputable def k153 : List Known := [rE p153 0 r0, rE p153 1 r3, rE p153 2 r4, rE p153 3 r7, aE p153 a4]
theorem w153 (x y z : Int) : Way x y z b153 := ⟨p153, k153, fun z => fb (by kernel_rfl) (by kernel_rfl) rfl, runs_ok (by kernel_rfl), by kernel_rfl⟩
noncomputable def b154 : List Bool := [false, true, false, true, true, false, false, true, false]
noncomputable def p154 : AV := pOf (.fs 6 false [r1, r3, r4, r7])
noncomputable def k154 : List Known := [rE p154 0 r1, rE p154 1 r3, rE p154 2 r4, rE p154 3 r7, aE p154 a4]
theorem w154 (x y z : Int) : Way x y z b154 := ⟨p154, k154, fun z => fb (by kernel_rfl) (by kernel_rfl) rfl, runs_ok (by kernel_rfl), by kernel_rfl⟩
noncomputable def b155 : List Bool := [true, true, false, true, true, false, false, true, false]
noncomputable def p155 : AV := pOf (.fs 6 false [r0, r1, r3, r4, r7])
noncomputable def k155 : List Known := [rE p155 0 r0, rE p155 1 r1, rE p155 2 r3, rE p155 3 r4, rE p155 4 r7, aE p155 a5]
theorem w155 (x y z : Int) : Way x y z b155 := ⟨p155, k155, fun z => fb (by kernel_rfl) (by kernel_rfl) rfl, runs_ok (by kernel_rfl), by kernel_rfl⟩
noncomputable def b156 : List Bool := [false, false, true, true, true, false, false, true, false]
noncomputable def p156 : AV := pOf (.fs 6 false [r2, r3, r4, r7])
noncomputable def k156 : List Known := [rE p156 0 r2, rE p156 1 r3, rE p156 2 r4, rE p156 3 r7, aE p156 a4]
theorem w156 (x y z : Int) : Way x y z b156 := ⟨p156, k156, fun z => fb (by kernel_rfl) (by kernel_rfl) rfl, runs_ok (by kernel_rfl), by kernel_rfl⟩
noncomputable def b157 : List Bool := [true, false, true, true, true, false, false, true, false]
noncomputable def p157 : AV := pOf (.fs 6 false [r0, r2, r3, r4, r7])
noncomputable def k157 : List Known := [rE p157 0 r0, rE p157 1 r2, rE p157 2 r3, rE p157 3 r4, rE p157 4 r7, aE p157 a5]
theorem w157 (x y z : Int) : Way x y z b157 := ⟨p157, k157, fun z => fb (by kernel_rfl) (by kernel_rfl) rfl, runs_ok (by kernel_rfl), by kernel_rfl⟩
noncomputable def b158 : List Bool := [false, true, true, true, true, false, false, true, false]
noncomputable def p158 : AV := pOf (.fs 6 false [r1, r2, r3, r4, r7])
noncomputable def k158 : List Known := [rE p158 0 r1, rE p158 1 r2, rE p158 2 r3, rE p158 3 r4, rE p158 4 r7, aE p158 a5]
theorem w158 (x y z : Int) : Way x y z b158 := ⟨p158, k158, fun z => fb (by kernel_rfl) (by kernel_rfl) rfl, runs_ok (by kernel_rfl), by kernel_rfl⟩
noncomputable def b159 : List Bool := [true, true, true, true, true, false, false, true, false]
noncomputable def p159 : AV := pOf (.fs 6 false [r0, r1, r2, r3, r4, r7])
noncomputable def k159 : List Known := [rE p159 0 r0, rE p159 1 r1, rE p159 2 r2, rE p159 3 r3, rE p159 4 r4, rE p159 5 r7, aE p159 a6]
theorem w159 (x y z : Int) : Way x y z b159 := ⟨p159, k159, fun z => fb (by kernel_rfl) (by kernel_rfl) rfl, runs_ok (by kernel_rfl), by kernel_rfl⟩
noncomputable def b160 : List Bool := [false, false, false, false, false, true, false, true, false]
noncomputable def p160 : AV := pOf (.fs 6 false [r5, r7])
noncomputable def k160 : List Known := [rE p160 0 r5, rE p160 1 r7, aE p160 a2]
theorem w160 (x y z : Int) : Way x y z b160 := ⟨p160, k160, fun z => fb (by kernel_rfl) (by kernel_rfl) rfl, runs_ok (by kernel_rfl), by kernel_rfl⟩
noncomputable def b161 : List Bool := [true, false, false, false, false, true, false, true, false]
noncomputable def p161 : AV := pOf (.fs 6 false [r0, r5, r7])
noncomputable def k161 : List Known := [rE p161 0 r0, rE p161 1 r5, rE p161 2 r7, aE p161 a3]
theorem w161 (x y z : Int) : Way x y z b161 := ⟨p161, k161, fun z => fb (by kernel_rfl) (by kernel_rfl) rfl, runs_ok (by kernel_rfl), by kernel_rfl⟩
noncomputable def b162 : List Bool := [false, true, false, false, false, true, false, true, false]
noncomputable def p162 : AV := pOf (.fs 6 false [r1, r5, r7])
noncomputable def k162 : List Known := [rE p162 0 r1, rE p162 1 r5, rE p162 2 r7, aE p162 a3]
theorem w162 (x y z : Int) : Way x y z b162 := ⟨p162, k162, fun z => fb (by kernel_rfl) (by kernel_rfl) rfl, runs_ok (by kernel_rfl), by kernel_rfl⟩
noncomputable def b163 : List Bool := [true, true, false, false, false, true, false, true, false]
noncomputable def p163 : AV := pOf (.fs 6 false [r0, r1, r5, r7])
noncomputable def k163 : List Known := [rE p163 0 r0, rE p163 1 r1, rE p163 2 r5, rE p163 3 r7, aE p163 a4]
theorem w163 (x y z : Int) : Way x y z b163 := ⟨p163, k163, fun z => fb (by kernel_rfl) (by kernel_rfl) rfl, runs_ok (by kernel_rfl), by kernel_rfl⟩
noncomputable def b164 : List Bool := [false, false, true, false, false, true, false, true, false]
noncomputable def p164 : AV := pOf (.fs 6 false [r2, r5, r7])
noncomputable def k164 : List Known := [rE p164 0 r2, rE p164 1 r5, rE p164 2 r7, aE p164 a3]
theorem w164 (x y z : Int) : Way x y z b164 := ⟨p164, k164, fun z => fb (by kernel_rfl) (by kernel_rfl) rfl, runs_ok (by kernel_rfl), by kernel_rfl⟩
noncomputable def b165 : List Bool := [true, false, true, false, false, true, false, true, false]
noncomputable def p165 : AV := pOf (.fs 6 false [r0, r2, r5, r7])
noncomputable def k165 : List Known := [rE p165 0 r0, rE p165 1 r2, rE p165 2 r5, rE p165 3 r7, aE p165 a4]
theorem w165 (x y z : Int) : Way x y z b165 := ⟨p165, k165, fun z => fb (by kernel_rfl) (by kernel_rfl) rfl, runs_ok (by kernel_rfl), by kernel_rfl⟩
noncomputable def b166 : List Bool := [false, true, true, false, false, true, false, true, false]
noncomputable def p166 : AV := pOf (.fs 6 false [r1, r2, r5, r7])
noncomputable def k166 : List Known := [rE p166 0 r1, rE p166 1 r2, rE p166 2 r5, rE p166 3 r7, aE p166 a4]
theorem w166 (x y z : Int) : Way x y z b166 := ⟨p166, k166, fun z => fb (by kernel_rfl) (by kernel_rfl) rfl, runs_ok (by kernel_rfl), by kernel_rfl⟩
noncomputable def b167 : List Bool := [true, true, true, false, false, true, false, true, false]
noncomputable def p167 : AV := pOf (.fs 6 false [r0, r1, r2, r5, r7])
noncomputable def k167 : List Known := [rE p167 0 r0, rE p167 1 r1, rE p167 2 r2, rE p167 3 r5, rE p167 4 r7, aE p167 a5]
theorem w167 (x y z : Int) : Way x y z b167 := ⟨p167, k167, fun z => fb (by kernel_rfl) (by kernel_rfl) rfl, runs_ok (by kernel_rfl), by kernel_rfl⟩
noncomputable def b168 : List Bool := [false, false, false, true, false, true, false, true, false]
noncomputable def p168 : AV := pOf (.fs 6 false [r3, r5, r7])
noncomputable def k168 : List Known := [rE p168 0 r3, rE p168 1 r5, rE p168 2 r7, aE p168 a3]
theorem w168 (x y z : Int) : Way x y z b168 := ⟨p168, k168, fun z => fb (by kernel_rfl) (by kernel_rfl) rfl, runs_ok (by kernel_rfl), by kernel_rfl⟩
end Go.Zev.Ob
