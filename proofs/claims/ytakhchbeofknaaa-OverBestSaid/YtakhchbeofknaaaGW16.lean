/-
  Printed by ob.py: choices of heads; what is known of each; its ways.
-/
import Derived.Test.YtakhchbeofknaaaGF
set_option linter.unusedVariables false
set_option maxRecDepth 20000
namespace Go.Zev.Ob
open Go Go.Zev Go.Proofs
noncomputable def b238 : List Bool := [false, true, true, true, false, true, true, true, false]
noncomputable def p238 : AV := pOf (.fs 6 false [r1, r2, r3, r5, r6, r7])
noncomputable def k238 : List Known := [rE p238 0 r1, rE p238 1 r2, rE p238 2 r3, rE p238 3 r5, rE p238 4 r6, rE p238 5 r7, aE p238 a6]
theorem w238 (x y z : Int) : Way x y z b238 := ⟨p238, k238, fun z => fb (by kernel_rfl) (by kernel_rfl) rfl, runs_ok (by kernel_rfl), by kernel_rfl⟩
noncomputable def b239 : List Bool := [true, true, true, true, false, true, true, true, false]
noncomputable def p239 : AV := pOf (.fs 6 false [r0, r1, r2, r3, r5, r6, r7])
noncomputable def k239 : List Known := [rE p239 0 r0, rE p239 1 r1, rE p239 2 r2, rE p239 3 r3, rE p239 4 r5, rE p239 5 r6, rE p239 6 r7, aE p239 a7]
theorem w239 (x y z : Int) : Way x y z b239 := ⟨p239, k239, fun z => fb (by kernel_rfl) (by kernel_rfl) rfl, runs_ok (by kernel_rfl), by kernel_rfl⟩
noncomputable def b240 : List Bool := [false, false, false, false, true, true, true, true, false]
noncomputable def p240 : AV := pOf (.fs 6 false [r4, r5, r6, r7])
noncomputable def k240 : List Known := [rE p240 0 r4, rE p240 1 r5, rE p240 2 r6, rE p240 3 r7, aE p240 a4]
theorem w240 (x y z : Int) : Way x y z b240 := ⟨p240, k240, fun z => fb (by kernel_rfl) (by kernel_rfl) rfl, runs_ok (by kernel_rfl), by kernel_rfl⟩
noncomputable def b241 : List Bool := [true, false, false, false, true, true, true, true, false]
noncomputable def p241 : AV := pOf (.fs 6 false [r0, r4, r5, r6, r7])
noncomputable def k241 : List Known := [rE p241 0 r0, rE p241 1 r4, rE p241 2 r5, rE p241 3 r6, rE p241 4 r7, aE p241 a5]
theorem w241 (x y z : Int) : Way x y z b241 := ⟨p241, k241, fun z => fb (by kernel_rfl) (by kernel_rfl) rfl, runs_ok (by kernel_rfl), by kernel_rfl⟩
noncomputable def b242 : List Bool := [false, true, false, false, true, true, true, true, false]
noncomputable def p242 : AV := pOf (.fs 6 false [r1, r4, r5, r6, r7])
noncomputable def k242 : List Known := [rE p242 0 r1, rE p242 1 r4, rE p242 2 r5, rE p242 3 r6, rE p242 4 r7, aE p242 a5]
theorem w242 (x y z : Int) : Way x y z b242 := ⟨p242, k242, fun z => fb (by kernel_rfl) (by kernel_rfl) rfl, runs_ok (by kernel_rfl), by kernel_rfl⟩
noncomputable def b243 : List Bool := [true, true, false, false, true, true, true, true, false]
noncomputable def p243 : AV := pOf (.fs 6 false [r0, r1, r4, r5, r6, r7])
noncomputable def k243 : List Known := [rE p243 0 r0, rE p243 1 r1, rE p243 2 r4, rE p243 3 r5, rE p243 4 r6, rE p243 5 r7, aE p243 a6]
theorem w243 (x y z : Int) : Way x y z b243 := ⟨p243, k243, fun z => fb (by kernel_rfl) (by kernel_rfl) rfl, runs_ok (by kernel_rfl), by kernel_rfl⟩
noncomputable def b244 : List Bool := [false, false, true, false, true, true, true, true, false]
noncomputable def p244 : AV := pOf (.fs 6 false [r2, r4, r5, r6, r7])
noncomputable def k244 : List Known := [rE p244 0 r2, rE p244 1 r4, rE p244 2 r5, rE p244 3 r6, rE p244 4 r7, aE p244 a5]
theorem w244 (x y z : Int) : Way x y z b244 := ⟨p244, k244, fun z => fb (by kernel_rfl) (by kernel_rfl) rfl, runs_ok (by kernel_rfl), by kernel_rfl⟩
noncomputable def b245 : List Bool := [true, false, true, false, true, true, true, true, false]
noncomputable def p245 : AV := pOf (.fs 6 false [r0, r2, r4, r5, r6, r7])
noncomputable def k245 : List Known := [rE p245 0 r0, rE p245 1 r2, rE p245 2 r4, rE p245 3 r5, rE p245 4 r6, rE p245 5 r7, aE p245 a6]
theorem w245 (x y z : Int) : Way x y z b245 := ⟨p245, k245, fun z => fb (by kernel_rfl) (by kernel_rfl) rfl, runs_ok (by kernel_rfl), by kernel_rfl⟩
noncomputable def b246 : List Bool := [false, true, true, false, true, true, true, true, false]
noncomputable def p246 : AV := pOf (.fs 6 false [r1, r2, r4, r5, r6, r7])
noncomputable def k246 : List Known := [rE p246 0 r1, rE p246 1 r2, rE p246 2 r4, rE p246 3 r5, rE p246 4 r6, rE p246 5 r7, aE p246 a6]
theorem w246 (x y z : Int) : Way x y z b246 := ⟨p246, k246, fun z => fb (by kernel_rfl) (by kernel_rfl) rfl, runs_ok (by kernel_rfl), by kernel_rfl⟩
noncomputable def b247 : List Bool := [true, true, true, false, true, true, true, true, false]
noncomputable def p247 : AV := pOf (.fs 6 false [r0, r1, r2, r4, r5, r6, r7])
noncomputable def k247 : List Known := [rE p247 0 r0, rE p247 1 r1, rE p247 2 r2, rE p247 3 r4, rE p247 4 r5, rE p247 5 r6, rE p247 6 r7, aE p247 a7]
theorem w247 (x y z : Int) : Way x y z b247 := ⟨p247, k247, fun z => fb (by kernel_rfl) (by kernel_rfl) rfl, runs_ok (by kernel_rfl), by kernel_rfl⟩
noncomputable def b248 : List Bool := [false, false, false, true, true, true, true, true, false]
noncomputable def p248 : AV := pOf (.fs 6 false [r3, r4, r5, r6, r7])
noncomputable def k248 : List Known := [rE p248 0 r3, rE p248 1 r4, rE p248 2 r5, rE p248 3 r6, rE p248 4 r7, aE p248 a5]
theorem w248 (x y z : Int) : Way x y z b248 := ⟨p248, k248, fun z => fb (by kernel_rfl) (by kernel_rfl) rfl, runs_ok (by kernel_rfl), by kernel_rfl⟩
end Go.Zev.Ob
