/-
  Printed by ob.py: choices of heads; what is known of each; its ways.
-/
import Derived.Test.YtakhchbeofknaaaGF
set_option linter.unusedVariables false
set_option maxRecDepth 20000
namespace Go.Zev.Ob
open Go Go.Zev Go.Proofs
noncomputable def b184 : List Bool := [false, false, false, true, true, true, false, true, false]
noncomputable def p184 : AV := pOf (.fs 6 false [r3, r4, r5, r7])
noncomputable def k184 : List Known := [rE p184 0 r3, rE p184 1 r4, rE p184 2 r5, rE p184 3 r7, aE p184 a4]
theorem w184 (x y z : Int) : Way x y z b184 := ⟨p184, k184, fun z => fb (by kernel_rfl) (by kernel_rfl) rfl, runs_ok (by kernel_rfl), by kernel_rfl⟩
noncomputable def b185 : List Bool := [true, false, false, true, true, true, false, true, false]
noncomputable def p185 : AV := pOf (.fs 6 false [r0, r3, r4, r5, r7])
noncomputable def k185 : List Known := [rE p185 0 r0, rE p185 1 r3, rE p185 2 r4, rE p185 3 r5, rE p185 4 r7, aE p185 a5]
theorem w185 (x y z : Int) : Way x y z b185 := ⟨p185, k185, fun z => fb (by kernel_rfl) (by kernel_rfl) rfl, runs_ok (by kernel_rfl), by kernel_rfl⟩
noncomputable def b186 : List Bool := [false, true, false, true, true, true, false, true, false]
noncomputable def p186 : AV := pOf (.fs 6 false [r1, r3, r4, r5, r7])
noncomputable def k186 : List Known := [rE p186 0 r1, rE p186 1 r3, rE p186 2 r4, rE p186 3 r5, rE p186 4 r7, aE p186 a5]
theorem w186 (x y z : Int) : Way x y z b186 := ⟨p186, k186, fun z => fb (by kernel_rfl) (by kernel_rfl) rfl, runs_ok (by kernel_rfl), by kernel_rfl⟩
noncomputable def b187 : List Bool := [true, true, false, true, true, true, false, true, false]
noncomputable def p187 : AV := pOf (.fs 6 false [r0, r1, r3, r4, r5, r7])
noncomputable def k187 : List Known := [rE p187 0 r0, rE p187 1 r1, rE p187 2 r3, rE p187 3 r4, rE p187 4 r5, rE p187 5 r7, aE p187 a6]
theorem w187 (x y z : Int) : Way x y z b187 := ⟨p187, k187, fun z => fb (by kernel_rfl) (by kernel_rfl) rfl, runs_ok (by kernel_rfl), by kernel_rfl⟩
noncomputable def b188 : List Bool := [false, false, true, true, true, true, false, true, false]
noncomputable def p188 : AV := pOf (.fs 6 false [r2, r3, r4, r5, r7])
noncomputable def k188 : List Known := [rE p188 0 r2, rE p188 1 r3, rE p188 2 r4, rE p188 3 r5, rE p188 4 r7, aE p188 a5]
theorem w188 (x y z : Int) : Way x y z b188 := ⟨p188, k188, fun z => fb (by kernel_rfl) (by kernel_rfl) rfl, runs_ok (by kernel_rfl), by kernel_rfl⟩
noncomputable def b189 : List Bool := [true, false, true, true, true, true, false, true, false]
noncomputable def p189 : AV := pOf (.fs 6 false [r0, r2, r3, r4, r5, r7])
noncomputable def k189 : List Known := [rE p189 0 r0, rE p189 1 r2, rE p189 2 r3, rE p189 3 r4, rE p189 4 r5, rE p189 5 r7, aE p189 a6]
theorem w189 (x y z : Int) : Way x y z b189 := ⟨p189, k189, fun z => fb (by kernel_rfl) (by kernel_rfl) rfl, runs_ok (by kernel_rfl), by kernel_rfl⟩
noncomputable def b190 : List Bool := [false, true, true, true, true, true, false, true, false]
noncomputable def p190 : AV := pOf (.fs 6 false [r1, r2, r3, r4, r5, r7])
noncomputable def k190 : List Known := [rE p190 0 r1, rE p190 1 r2, rE p190 2 r3, rE p190 3 r4, rE p190 4 r5, rE p190 5 r7, aE p190 a6]
theorem w190 (x y z : Int) : Way x y z b190 := ⟨p190, k190, fun z => fb (by kernel_rfl) (by kernel_rfl) rfl, runs_ok (by kernel_rfl), by kernel_rfl⟩
noncomputable def b191 : List Bool := [true, true, true, true, true, true, false, true, false]
noncomputable def p191 : AV := pOf (.fs 6 false [r0, r1, r2, r3, r4, r5, r7])
noncomputable def k191 : List Known := [rE p191 0 r0, rE p191 1 r1, rE p191 2 r2, rE p191 3 r3, rE p191 4 r4, rE p191 5 r5, rE p191 6 r7, aE p191 a7]
theorem w191 (x y z : Int) : Way x y z b191 := ⟨p191, k191, fun z => fb (by kernel_rfl) (by kernel_rfl) rfl, runs_ok (by kernel_rfl), by kernel_rfl⟩
noncomputable def b192 : List Bool := [false, false, false, false, false, false, true, true, false]
noncomputable def p192 : AV := pOf (.fs 6 false [r6, r7])
noncomputable def k192 : List Known := [rE p192 0 r6, rE p192 1 r7, aE p192 a2]
theorem w192 (x y z : Int) : Way x y z b192 := ⟨p192, k192, fun z => fb (by kernel_rfl) (by kernel_rfl) rfl, runs_ok (by kernel_rfl), by kernel_rfl⟩
noncomputable def b193 : List Bool := [true, false, false, false, false, false, true, true, false]
noncomputable def p193 : AV := pOf (.fs 6 false [r0, r6, r7])
noncomputable def k193 : List Known := [rE p193 0 r0, rE p193 1 r6, rE p193 2 r7, aE p193 a3]
theorem w193 (x y z : Int) : Way x y z b193 := ⟨p193, k193, fun z => fb (by kernel_rfl) (by kernel_rfl) rfl, runs_ok (by kernel_rfl), by kernel_rfl⟩
noncomputable def b194 : List Bool := [false, true, false, false, false, false, true, true, false]
noncomputable def p194 : AV := pOf (.fs 6 false [r1, r6, r7])
noncomputable def k194 : List Known := [rE p194 0 r1, rE p194 1 r6, rE p194 2 r7, aE p194 a3]
theorem w194 (x y z : Int) : Way x y z b194 := ⟨p194, k194, fun z => fb (by kernel_rfl) (by kernel_rfl) rfl, runs_ok (by kernel_rfl), by kernel_rfl⟩
noncomputable def b195 : List Bool := [true, true, false, false, false, false, true, true, false]
noncomputable def p195 : AV := pOf (.fs 6 false [r0, r1, r6, r7])
noncomputable def k195 : List Known := [rE p195 0 r0, rE p195 1 r1, rE p195 2 r6, rE p195 3 r7, aE p195 a4]
theorem w195 (x y z : Int) : Way x y z b195 := ⟨p195, k195, fun z => fb (by kernel_rfl) (by kernel_rfl) rfl, runs_ok (by kernel_rfl), by kernel_rfl⟩
noncomputable def b196 : List Bool := [false, false, true, false, false, false, true, true, false]
noncomputable def p196 : AV := pOf (.fs 6 false [r2, r6, r7])
noncomputable def k196 : List Known := [rE p196 0 r2, rE p196 1 r6, rE p196 2 r7, aE p196 a3]
theorem w196 (x y z : Int) : Way x y z b196 := ⟨p196, k196, fun z => fb (by kernel_rfl) (by kernel_rfl) rfl, runs_ok (by kernel_rfl), by kernel_rfl⟩
end Go.Zev.Ob
