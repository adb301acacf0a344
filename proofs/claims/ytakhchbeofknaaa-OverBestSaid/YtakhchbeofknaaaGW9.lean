/-
  Printed by ob.py: choices of heads; what is known of each; its ways.
-/
import Derived.Test.YtakhchbeofknaaaGF
set_option linter.unusedVariables false
set_option maxRecDepth 20000
namespace Go.Zev.Ob
open Go Go.Zev Go.Proofs
noncomputable def b133 : List Bool := [true, false, true, false, false, false, false, true, false]
noncomputable def p133 : AV := pOf (.fs 6 false [r0, r2, r7])
noncomputable def k133 : List Known := [rE p133 0 r0, rE p133 1 r2, rE p133 2 r7, aE p133 a3]
theorem w133 (x y z : Int) : Way x y z b133 := ⟨p133, k133, fun z => fb (by kernel_rfl) (by kernel_rfl) rfl, runs_ok (by kernel_rfl), by kernel_rfl⟩
noncomputable def b134 : List Bool := [false, true, true, false, false, false, false, true, false]
noncomputable def p134 : AV := pOf (.fs 6 false [r1, r2, r7])
noncomputable def k134 : List Known := [rE p134 0 r1, rE p134 1 r2, rE p134 2 r7, aE p134 a3]
theorem w134 (x y z : Int) : Way x y z b134 := ⟨p134, k134, fun z => fb (by kernel_rfl) (by kernel_rfl) rfl, runs_ok (by kernel_rfl), by kernel_rfl⟩
noncomputable def b135 : List Bool := [true, true, true, false, false, false, false, true, false]
noncomputable def p135 : AV := pOf (.fs 6 false [r0, r1, r2, r7])
noncomputable def k135 : List Known := [rE p135 0 r0, rE p135 1 r1, rE p135 2 r2, rE p135 3 r7, aE p135 a4]
theorem w135 (x y z : Int) : Way x y z b135 := ⟨p135, k135, fun z => fb (by kernel_rfl) (by kernel_rfl) rfl, runs_ok (by kernel_rfl), by kernel_rfl⟩
noncomputable def b136 : List Bool := [false, false, false, true, false, false, false, true, false]
noncomputable def p136 : AV := pOf (.fs 6 false [r3, r7])
noncomputable def k136 : List Known := [rE p136 0 r3, rE p136 1 r7, aE p136 a2]
theorem w136 (x y z : Int) : Way x y z b136 := ⟨p136, k136, fun z => fb (by kernel_rfl) (by kernel_rfl) rfl, runs_ok (by kernel_rfl), by kernel_rfl⟩
noncomputable def b137 : List Bool := [true, false, false, true, false, false, false, true, false]
noncomputable def p137 : AV := pOf (.fs 6 false [r0, r3, r7])
noncomputable def k137 : List Known := [rE p137 0 r0, rE p137 1 r3, rE p137 2 r7, aE p137 a3]
theorem w137 (x y z : Int) : Way x y z b137 := ⟨p137, k137, fun z => fb (by kernel_rfl) (by kernel_rfl) rfl, runs_ok (by kernel_rfl), by kernel_rfl⟩
noncomputable def b138 : List Bool := [false, true, false, true, false, false, false, true, false]
noncomputable def p138 : AV := pOf (.fs 6 false [r1, r3, r7])
noncomputable def k138 : List Known := [rE p138 0 r1, rE p138 1 r3, rE p138 2 r7, aE p138 a3]
theorem w138 (x y z : Int) : Way x y z b138 := ⟨p138, k138, fun z => fb (by kernel_rfl) (by kernel_rfl) rfl, runs_ok (by kernel_rfl), by kernel_rfl⟩
noncomputable def b139 : List Bool := [true, true, false, true, false, false, false, true, false]
noncomputable def p139 : AV := pOf (.fs 6 false [r0, r1, r3, r7])
noncomputable def k139 : List Known := [rE p139 0 r0, rE p139 1 r1, rE p139 2 r3, rE p139 3 r7, aE p139 a4]
theorem w139 (x y z : Int) : Way x y z b139 := ⟨p139, k139, fun z => fb (by kernel_rfl) (by kernel_rfl) rfl, runs_ok (by kernel_rfl), by kernel_rfl⟩
noncomputable def b140 : List Bool := [false, false, true, true, false, false, false, true, false]
noncomputable def p140 : AV := pOf (.fs 6 false [r2, r3, r7])
noncomputable def k140 : List Known := [rE p140 0 r2, rE p140 1 r3, rE p140 2 r7, aE p140 a3]
theorem w140 (x y z : Int) : Way x y z b140 := ⟨p140, k140, fun z => fb (by kernel_rfl) (by kernel_rfl) rfl, runs_ok (by kernel_rfl), by kernel_rfl⟩
noncomputable def b141 : List Bool := [true, false, true, true, false, false, false, true, false]
noncomputable def p141 : AV := pOf (.fs 6 false [r0, r2, r3, r7])
noncomputable def k141 : List Known := [rE p141 0 r0, rE p141 1 r2, rE p141 2 r3, rE p141 3 r7, aE p141 a4]
theorem w141 (x y z : Int) : Way x y z b141 := ⟨p141, k141, fun z => fb (by kernel_rfl) (by kernel_rfl) rfl, runs_ok (by kernel_rfl), by kernel_rfl⟩
noncomputable def b142 : List Bool := [false, true, true, true, false, false, false, true, false]
noncomputable def p142 : AV := pOf (.fs 6 false [r1, r2, r3, r7])
noncomputable def k142 : List Known := [rE p142 0 r1, rE p142 1 r2, rE p142 2 r3, rE p142 3 r7, aE p142 a4]
theorem w142 (x y z : Int) : Way x y z b142 := ⟨p142, k142, fun z => fb (by kernel_rfl) (by kernel_rfl) rfl, runs_ok (by kernel_rfl), by kernel_rfl⟩
noncomputable def b143 : List Bool := [true, true, true, true, false, false, false, true, false]
noncomputable def p143 : AV := pOf (.fs 6 false [r0, r1, r2, r3, r7])
noncomputable def k143 : List Known := [rE p143 0 r0, rE p143 1 r1, rE p143 2 r2, rE p143 3 r3, rE p143 4 r7, aE p143 a5]
theorem w143 (x y z : Int) : Way x y z b143 := ⟨p143, k143, fun z => fb (by kernel_rfl) (by kernel_rfl) rfl, runs_ok (by kernel_rfl), by kernel_rfl⟩
noncomputable def b144 : List Bool := [false, false, false, false, true, false, false, true, false]
noncomputable def p144 : AV := pOf (.fs 6 false [r4, r7])
noncomputable def k144 : List Known := [rE p144 0 r4, rE p144 1 r7, aE p144 a2]
theorem w144 (x y z : Int) : Way x y z b144 := ⟨p144, k144, fun z => fb (by kernel_rfl) (by kernel_rfl) rfl, runs_ok (by kernel_rfl), by kernel_rfl⟩
noncomputable def b145 : List Bool := [true, false, false, false, true, false, false, true, false]
noncomputable def p145 : AV := pOf (.fs 6 false [r0, r4, r7])
noncomputable def k145 : List Known := [rE p145 0 r0, rE p145 1 r4, rE p145 2 r7, aE p145 a3]
theorem w145 (x y z : Int) : Way x y z b145 := ⟨p145, k145, fun z => fb (by kernel_rfl) (by kernel_rfl) rfl, runs_ok (by kernel_rfl), by kernel_rfl⟩
noncomputable def b146 : List Bool := [false, true, false, false, true, false, false, true, false]
noncomputable def p146 : AV := pOf (.fs 6 false [r1, r4, r7])
noncomputable def k146 : List Known := [rE p146 0 r1, rE p146 1 r4, rE p146 2 r7, aE p146 a3]
theorem w146 (x y z : Int) : Way x y z b146 := ⟨p146, k146, fun z => fb (by kernel_rfl) (by kernel_rfl) rfl, runs_ok (by kernel_rfl), by kernel_rfl⟩
noncomputable def b147 : List Bool := [true, true, false, false, true, false, false, true, false]
noncomputable def p147 : AV := pOf (.fs 6 false [r0, r1, r4, r7])
noncomputable def k147 : List Known := [rE p147 0 r0, rE p147 1 r1, rE p147 2 r4, rE p147 3 r7, aE p147 a4]
theorem w147 (x y z : Int) : Way x y z b147 := ⟨p147, k147, fun z => fb (by kernel_rfl) (by kernel_rfl) rfl, runs_ok (by kernel_rfl), by kernel_rfl⟩
noncomputable def b148 : List Bool := [false, false, true, false, true, false, false, true, false]
noncomputable def p148 : AV := pOf (.fs 6 false [r2, r4, r7])
noncomputable def k148 : List Known := [rE p148 0 r2, rE p148 1 r4, rE p148 2 r7, aE p148 a3]
theorem w148 (x y z : Int) : Way x y z b148 := ⟨p148, k148, fun z => fb (by kernel_rfl) (by kernel_rfl) rfl, runs_ok (by kernel_rfl), by kernel_rfl⟩
noncomputable def b149 : List Bool := [true, false, true, false, true, false, false, true, false]
noncomputable def p149 : AV := pOf (.fs 6 false [r0, r2, r4, r7])
noncomputable def k149 : List Known := [rE p149 0 r0, rE p149 1 r2, rE p149 2 r4, rE p149 3 r7, aE p149 a4]
theorem w149 (x y z : Int) : Way x y z b149 := ⟨p149, k149, fun z => fb (by kernel_rfl) (by kernel_rfl) rfl, runs_ok (by kernel_rfl), by kernel_rfl⟩
noncomputable def b150 : List Bool := [false, true, true, false, true, false, false, true, false]
noncomputable def p150 : AV := pOf (.fs 6 false [r1, r2, r4, r7])
noncomputable def k150 : List Known := [rE p150 0 r1, rE p150 1 r2, rE p150 2 r4, rE p150 3 r7, aE p150 a4]
theorem w150 (x y z : Int) : Way x y z b150 := ⟨p150, k150, fun z => fb (by kernel_rfl) (by kernel_rfl) rfl, runs_ok (by kernel_rfl), by kernel_rfl⟩
noncomputable def b151 : List Bool := [true, true, true, false, true, false, false, true, false]
noncomputable def p151 : AV := pOf (.fs 6 false [r0, r1, r2, r4, r7])
noncomputable def k151 : List Known := [rE p151 0 r0, rE p151 1 r1, rE p151 2 r2, rE p151 3 r4, rE p151 4 r7, aE p151 a5]
theorem w151 (x y z : Int) : Way x y z b151 := ⟨p151, k151, fun z => fb (by kernel_rfl) (by kernel_rfl) rfl, runs_ok (by kernel_rfl), by kernel_rfl⟩
end Go.Zev.Ob
