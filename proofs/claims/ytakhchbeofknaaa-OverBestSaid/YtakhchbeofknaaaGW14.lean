/-
  Printed by ob.py: choices of heads; what is known of each; its ways.
-/
import Derived.Test.YtakhchbeofknaaaGF
set_option linter.unusedVariables false
set_option maxRecDepth 20000
namespace Go.Zev.Ob
open Go Go.Zev Go.Proofs
noncomputable def b212 : List Bool := [false, false, true, false, true, false, true, true, false]
noncomputable def p212 : AV := pOf (.fs 6 false [r2, r4, r6, r7])
noncomputable def k212 : List Known := [rE p212 0 r2, rE p212 1 r4, rE p212 2 r6, rE p212 3 r7, aE p212 a4]
theorem w212 (x y z : Int) : Way x y z b212 := ⟨p212, k212, fun z => fb (by kernel_rfl) (by kernel_rfl) rfl, runs_ok (by kernel_rfl), by kernel_rfl⟩
noncomputable def b213 : List Bool := [true, false, true, false, true, false, true, true, false]
noncomputable def p213 : AV := pOf (.fs 6 false [r0, r2, r4, r6, r7])
noncomputable def k213 : List Known := [rE p213 0 r0, rE p213 1 r2, rE p213 2 r4, rE p213 3 r6, rE p213 4 r7, aE p213 a5]
theorem w213 (x y z : Int) : Way x y z b213 := ⟨p213, k213, fun z => fb (by kernel_rfl) (by kernel_rfl) rfl, runs_ok (by kernel_rfl), by kernel_rfl⟩
noncomputable def b214 : List Bool := [false, true, true, false, true, false, true, true, false]
noncomputable def p214 : AV := pOf (.fs 6 false [r1, r2, r4, r6, r7])
noncomputable def k214 : List Known := [rE p214 0 r1, rE p214 1 r2, rE p214 2 r4, rE p214 3 r6, rE p214 4 r7, aE p214 a5]
theorem w214 (x y z : Int) : Way x y z b214 := ⟨p214, k214, fun z => fb (by kernel_rfl) (by kernel_rfl) rfl, runs_ok (by kernel_rfl), by kernel_rfl⟩
noncomputable def b215 : List Bool := [true, true, true, false, true, false, true, true, false]
noncomputable def p215 : AV := pOf (.fs 6 false [r0, r1, r2, r4, r6, r7])
noncomputable def k215 : List Known := [rE p215 0 r0, rE p215 1 r1, rE p215 2 r2, rE p215 3 r4, rE p215 4 r6, rE p215 5 r7, aE p215 a6]
theorem w215 (x y z : Int) : Way x y z b215 := ⟨p215, k215, fun z => fb (by kernel_rfl) (by kernel_rfl) rfl, runs_ok (by kernel_rfl), by kernel_rfl⟩
noncomputable def b216 : List Bool := [false, false, false, true, true, false, true, true, false]
noncomputable def p216 : AV := pOf (.fs 6 false [r3, r4, r6, r7])
noncomputable def k216 : List Known := [rE p216 0 r3, rE p216 1 r4, rE p216 2 r6, rE p216 3 r7, aE p216 a4]
theorem w216 (x y z : Int) : Way x y z b216 := ⟨p216, k216, fun z => fb (by kernel_rfl) (by kernel_rfl) rfl, runs_ok (by kernel_rfl), by kernel_rfl⟩
noncomputable def b217 : List Bool := [true, false, false, true, true, false, true, true, false]
noncomputable def p217 : AV := pOf (.fs 6 false [r0, r3, r4, r6, r7])
noncomputable def k217 : List Known := [rE p217 0 r0, rE p217 1 r3, rE p217 2 r4, rE p217 3 r6, rE p217 4 r7, aE p217 a5]
theorem w217 (x y z : Int) : Way x y z b217 := ⟨p217, k217, fun z => fb (by kernel_rfl) (by kernel_rfl) rfl, runs_ok (by kernel_rfl), by kernel_rfl⟩
noncomputable def b218 : List Bool := [false, true, false, true, true, false, true, true, false]
noncomputable def p218 : AV := pOf (.fs 6 false [r1, r3, r4, r6, r7])
noncomputable def k218 : List Known := [rE p218 0 r1, rE p218 1 r3, rE p218 2 r4, rE p218 3 r6, rE p218 4 r7, aE p218 a5]
theorem w218 (x y z : Int) : Way x y z b218 := ⟨p218, k218, fun z => fb (by kernel_rfl) (by kernel_rfl) rfl, runs_ok (by kernel_rfl), by kernel_rfl⟩
noncomputable def b219 : List Bool := [true, true, false, true, true, false, true, true, false]
noncomputable def p219 : AV := pOf (.fs 6 false [r0, r1, r3, r4, r6, r7])
noncomputable def k219 : List Known := [rE p219 0 r0, rE p219 1 r1, rE p219 2 r3, rE p219 3 r4, rE p219 4 r6, rE p219 5 r7, aE p219 a6]
theorem w219 (x y z : Int) : Way x y z b219 := ⟨p219, k219, fun z => fb (by kernel_rfl) (by kernel_rfl) rfl, runs_ok (by kernel_rfl), by kernel_rfl⟩
noncomputable def b220 : List Bool := [false, false, true, true, true, false, true, true, false]
noncomputable def p220 : AV := pOf (.fs 6 false [r2, r3, r4, r6, r7])
noncomputable def k220 : List Known := [rE p220 0 r2, rE p220 1 r3, rE p220 2 r4, rE p220 3 r6, rE p220 4 r7, aE p220 a5]
theorem w220 (x y z : Int) : Way x y z b220 := ⟨p220, k220, fun z => fb (by kernel_rfl) (by kernel_rfl) rfl, runs_ok (by kernel_rfl), by kernel_rfl⟩
noncomputable def b221 : List Bool := [true, false, true, true, true, false, true, true, false]
noncomputable def p221 : AV := pOf (.fs 6 false [r0, r2, r3, r4, r6, r7])
noncomputable def k221 : List Known := [rE p221 0 r0, rE p221 1 r2, rE p221 2 r3, rE p221 3 r4, rE p221 4 r6, rE p221 5 r7, aE p221 a6]
theorem w221 (x y z : Int) : Way x y z b221 := ⟨p221, k221, fun z => fb (by kernel_rfl) (by kernel_rfl) rfl, runs_ok (by kernel_rfl), by kernel_rfl⟩
noncomputable def b222 : List Bool := [false, true, true, true, true, false, true, true, false]
noncomputable def p222 : AV := pOf (.fs 6 false [r1, r2, r3, r4, r6, r7])
noncomputable def k222 : List Known := [rE p222 0 r1, rE p222 1 r2, rE p222 2 r3, rE p222 3 r4, rE p222 4 r6, rE p222 5 r7, aE p222 a6]
theorem w222 (x y z : Int) : Way x y z b222 := ⟨p222, k222, fun z => fb (by kernel_rfl) (by kernel_rfl) rfl, runs_ok (by kernel_rfl), by kernel_rfl⟩
noncomputable def b223 : List Bool := [true, true, true, true, true, false, true, true, false]
noncomputable def p223 : AV := pOf (.fs 6 false [r0, r1, r2, r3, r4, r6, r7])
noncomputable def k223 : List Known := [rE p223 0 r0, rE p223 1 r1, rE p223 2 r2, rE p223 3 r3, rE p223 4 r4, rE p223 5 r6, rE p223 6 r7, aE p223 a7]
theorem w223 (x y z : Int) : Way x y z b223 := ⟨p223, k223, fun z => fb (by kernel_rfl) (by kernel_rfl) rfl, runs_ok (by kernel_rfl), by kernel_rfl⟩
end Go.Zev.Ob
