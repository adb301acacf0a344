/-
  Printed by ob.py: choices of heads; what is known of each; its ways.
-/
import Derived.Test.YtakhchbeofknaaaGF
set_option linter.unusedVariables false
set_option maxRecDepth 20000
namespace Go.Zev.Ob
open Go Go.Zev Go.Proofs
noncomputable def b478 : List Bool := [false, true, true, true, true, false, true, true, true]
noncomputable def p478 : AV := pOf (.fs 6 false [r1, r2, r3, r4, r6, r7, r8])
noncomputable def k478 : List Known := [rE p478 0 r1, rE p478 1 r2, rE p478 2 r3, rE p478 3 r4, rE p478 4 r6, rE p478 5 r7, rE p478 6 r8, aE p478 a7]
theorem w478 (x y z : Int) : Way x y z b478 := ⟨p478, k478, fun z => fb (by kernel_rfl) (by kernel_rfl) rfl, runs_ok (by kernel_rfl), by kernel_rfl⟩
noncomputable def b479 : List Bool := [true, true, true, true, true, false, true, true, true]
noncomputable def p479 : AV := pOf (.fs 6 false [r0, r1, r2, r3, r4, r6, r7, r8])
noncomputable def k479 : List Known := [rE p479 0 r0, rE p479 1 r1, rE p479 2 r2, rE p479 3 r3, rE p479 4 r4, rE p479 5 r6, rE p479 6 r7, rE p479 7 r8, aE p479 a8]
theorem w479 (x y z : Int) : Way x y z b479 := ⟨p479, k479, fun z => fb (by kernel_rfl) (by kernel_rfl) rfl, runs_ok (by kernel_rfl), by kernel_rfl⟩
noncomputable def b480 : List Bool := [false, false, false, false, false, true, true, true, true]
noncomputable def p480 : AV := pOf (.fs 6 false [r5, r6, r7, r8])
noncomputable def k480 : List Known := [rE p480 0 r5, rE p480 1 r6, rE p480 2 r7, rE p480 3 r8, aE p480 a4]
theorem w480 (x y z : Int) : Way x y z b480 := ⟨p480, k480, fun z => fb (by kernel_rfl) (by kernel_rfl) rfl, runs_ok (by kernel_rfl), by kernel_rfl⟩
noncomputable def b481 : List Bool := [true, false, false, false, false, true, true, true, true]
noncomputable def p481 : AV := pOf (.fs 6 false [r0, r5, r6, r7, r8])
noncomputable def k481 : List Known := [rE p481 0 r0, rE p481 1 r5, rE p481 2 r6, rE p481 3 r7, rE p481 4 r8, aE p481 a5]
theorem w481 (x y z : Int) : Way x y z b481 := ⟨p481, k481, fun z => fb (by kernel_rfl) (by kernel_rfl) rfl, runs_ok (by kernel_rfl), by kernel_rfl⟩
noncomputable def b482 : List Bool := [false, true, false, false, false, true, true, true, true]
noncomputable def p482 : AV := pOf (.fs 6 false [r1, r5, r6, r7, r8])
noncomputable def k482 : List Known := [rE p482 0 r1, rE p482 1 r5, rE p482 2 r6, rE p482 3 r7, rE p482 4 r8, aE p482 a5]
theorem w482 (x y z : Int) : Way x y z b482 := ⟨p482, k482, fun z => fb (by kernel_rfl) (by kernel_rfl) rfl, runs_ok (by kernel_rfl), by kernel_rfl⟩
noncomputable def b483 : List Bool := [true, true, false, false, false, true, true, true, true]
noncomputable def p483 : AV := pOf (.fs 6 false [r0, r1, r5, r6, r7, r8])
noncomputable def k483 : List Known := [rE p483 0 r0, rE p483 1 r1, rE p483 2 r5, rE p483 3 r6, rE p483 4 r7, rE p483 5 r8, aE p483 a6]
theorem w483 (x y z : Int) : Way x y z b483 := ⟨p483, k483, fun z => fb (by kernel_rfl) (by kernel_rfl) rfl, runs_ok (by kernel_rfl), by kernel_rfl⟩
noncomputable def b484 : List Bool := [false, false, true, false, false, true, true, true, true]
noncomputable def p484 : AV := pOf (.fs 6 false [r2, r5, r6, r7, r8])
noncomputable def k484 : List Known := [rE p484 0 r2, rE p484 1 r5, rE p484 2 r6, rE p484 3 r7, rE p484 4 r8, aE p484 a5]
theorem w484 (x y z : Int) : Way x y z b484 := ⟨p484, k484, fun z => fb (by kernel_rfl) (by kernel_rfl) rfl, runs_ok (by kernel_rfl), by kernel_rfl⟩
noncomputable def b485 : List Bool := [true, false, true, false, false, true, true, true, true]
noncomputable def p485 : AV := pOf (.fs 6 false [r0, r2, r5, r6, r7, r8])
noncomputable def k485 : List Known := [rE p485 0 r0, rE p485 1 r2, rE p485 2 r5, rE p485 3 r6, rE p485 4 r7, rE p485 5 r8, aE p485 a6]
theorem w485 (x y z : Int) : Way x y z b485 := ⟨p485, k485, fun z => fb (by kernel_rfl) (by kernel_rfl) rfl, runs_ok (by kernel_rfl), by kernel_rfl⟩
noncomputable def b486 : List Bool := [false, true, true, false, false, true, true, true, true]
noncomputable def p486 : AV := pOf (.fs 6 false [r1, r2, r5, r6, r7, r8])
noncomputable def k486 : List Known := [rE p486 0 r1, rE p486 1 r2, rE p486 2 r5, rE p486 3 r6, rE p486 4 r7, rE p486 5 r8, aE p486 a6]
theorem w486 (x y z : Int) : Way x y z b486 := ⟨p486, k486, fun z => fb (by kernel_rfl) (by kernel_rfl) rfl, runs_ok (by kernel_rfl), by kernel_rfl⟩
end Go.Zev.Ob
