/-
  Printed by ob.py: choices of heads; what is known of each; its ways.
-/
import Derived.Test.YtakhchbeofknaaaGF
set_option linter.unusedVariables false
set_option maxRecDepth 20000
namespace Go.Zev.Ob
open Go Go.Zev Go.Proofs
noncomputable def b487 : List Bool := [true, true, true, false, false, true, true, true, true]
noncomputable def p487 : AV := pOf (.fs 6 false [r0, r1, r2, r5, r6, r7, r8])
noncomputable def k487 : List Known := [rE p487 0 r0, rE p487 1 r1, rE p487 2 r2, rE p487 3 r5, rE p487 4 r6, rE p487 5 r7, rE p487 6 r8, aE p487 a7]
theorem w487 (x y z : Int) : Way x y z b487 := ⟨p487, k487, fun z => fb (by kernel_rfl) (by kernel_rfl) rfl, runs_ok (by kernel_rfl), by kernel_rfl⟩
noncomputable def b488 : List Bool := [false, false, false, true, false, true, true, true, true]
noncomputable def p488 : AV := pOf (.fs 6 false [r3, r5, r6, r7, r8])
noncomputable def k488 : List Known := [rE p488 0 r3, rE p488 1 r5, rE p488 2 r6, rE p488 3 r7, rE p488 4 r8, aE p488 a5]
theorem w488 (x y z : Int) : Way x y z b488 := ⟨p488, k488, fun z => fb (by kernel_rfl) (by kernel_rfl) rfl, runs_ok (by kernel_rfl), by kernel_rfl⟩
noncomputable def b489 : List Bool := [true, false, false, true, false, true, true, true, true]
noncomputable def p489 : AV := pOf (.fs 6 false [r0, r3, r5, r6, r7, r8])
noncomputable def k489 : List Known := [rE p489 0 r0, rE p489 1 r3, rE p489 2 r5, rE p489 3 r6, rE p489 4 r7, rE p489 5 r8, aE p489 a6]
theorem w489 (x y z : Int) : Way x y z b489 := ⟨p489, k489, fun z => fb (by kernel_rfl) (by kernel_rfl) rfl, runs_ok (by kernel_rfl), by kernel_rfl⟩
noncomputable def b490 : List Bool := [false, true, false, true, false, true, true, true, true]
noncomputable def p490 : AV := pOf (.fs 6 false [r1, r3, r5, r6, r7, r8])
noncomputable def k490 : List Known := [rE p490 0 r1, rE p490 1 r3, rE p490 2 r5, rE p490 3 r6, rE p490 4 r7, rE p490 5 r8, aE p490 a6]
theorem w490 (x y z : Int) : Way x y z b490 := ⟨p490, k490, fun z => fb (by kernel_rfl) (by kernel_rfl) rfl, runs_ok (by kernel_rfl), by kernel_rfl⟩
noncomputable def b491 : List Bool := [true, true, false, true, false, true, true, true, true]
noncomputable def p491 : AV := pOf (.fs 6 false [r0, r1, r3, r5, r6, r7, r8])
noncomputable def k491 : List Known := [rE p491 0 r0, rE p491 1 r1, rE p491 2 r3, rE p491 3 r5, rE p491 4 r6, rE p491 5 r7, rE p491 6 r8, aE p491 a7]
theorem w491 (x y z : Int) : Way x y z b491 := ⟨p491, k491, fun z => fb (by kernel_rfl) (by kernel_rfl) rfl, runs_ok (by kernel_rfl), by kernel_rfl⟩
noncomputable def b492 : List Bool := [false, false, true, true, false, true, true, true, true]
noncomputable def p492 : AV := pOf (.fs 6 false [r2, r3, r5, r6, r7, r8])
noncomputable def k492 : List Known := [rE p492 0 r2, rE p492 1 r3, rE p492 2 r5, rE p492 3 r6, rE p492 4 r7, rE p492 5 r8, aE p492 a6]
theorem w492 (x y z : Int) : Way x y z b492 := ⟨p492, k492, fun z => fb (by kernel_rfl) (by kernel_rfl) rfl, runs_ok (by kernel_rfl), by kernel_rfl⟩
noncomputable def b493 : List Bool := [true, false, true, true, false, true, true, true, true]
noncomputable def p493 : AV := pOf (.fs 6 false [r0, r2, r3, r5, r6, r7, r8])
noncomputable def k493 : List Known := [rE p493 0 r0, rE p493 1 r2, rE p493 2 r3, rE p493 3 r5, rE p493 4 r6, rE p493 5 r7, rE p493 6 r8, aE p493 a7]
theorem w493 (x y z : Int) : Way x y z b493 := ⟨p493, k493, fun z => fb (by kernel_rfl) (by kernel_rfl) rfl, runs_ok (by kernel_rfl), by kernel_rfl⟩
noncomputable def b494 : List Bool := [false, true, true, true, false, true, true, true, true]
noncomputable def p494 : AV := pOf (.fs 6 false [r1, r2, r3, r5, r6, r7, r8])
noncomputable def k494 : List Known := [rE p494 0 r1, rE p494 1 r2, rE p494 2 r3, rE p494 3 r5, rE p494 4 r6, rE p494 5 r7, rE p494 6 r8, aE p494 a7]
theorem w494 (x y z : Int) : Way x y z b494 := ⟨p494, k494, fun z => fb (by kernel_rfl) (by kernel_rfl) rfl, runs_ok (by kernel_rfl), by kernel_rfl⟩
end Go.Zev.Ob
