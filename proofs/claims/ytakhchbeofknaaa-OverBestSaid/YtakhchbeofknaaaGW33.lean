/-
  Printed by ob.py: choices of heads; what is known of each; its ways.
-/
import Derived.Test.YtakhchbeofknaaaGF
set_option linter.unusedVariables false
set_option maxRecDepth 20000
namespace Go.Zev.Ob
open Go Go.Zev Go.Proofs
noncomputable def b458 : List Bool := [false, true, false, true, false, false, true, true, true]
noncomputable def p458 : AV := pOf (.fs 6 false [r1, r3, r6, r7, r8])
noncomputable def k458 : List Known := [rE p458 0 r1, rE p458 1 r3, rE p458 2 r6, rE p458 3 r7, rE p458 4 r8, aE p458 a5]
theorem w458 (x y z : Int) : Way x y z b458 := ⟨p458, k458, fun z => fb (by kernel_rfl) (by kernel_rfl) rfl, runs_ok (by kernel_rfl), by kernel_rfl⟩
noncomputable def b459 : List Bool := [true, true, false, true, false, false, true, true, true]
noncomputable def p459 : AV := pOf (.fs 6 false [r0, r1, r3, r6, r7, r8])
noncomputable def k459 : List Known := [rE p459 0 r0, rE p459 1 r1, rE p459 2 r3, rE p459 3 r6, rE p459 4 r7, rE p459 5 r8, aE p459 a6]
theorem w459 (x y z : Int) : Way x y z b459 := ⟨p459, k459, fun z => fb (by kernel_rfl) (by kernel_rfl) rfl, runs_ok (by kernel_rfl), by kernel_rfl⟩
noncomputable def b460 : List Bool := [false, false, true, true, false, false, true, true, true]
noncomputable def p460 : AV := pOf (.fs 6 false [r2, r3, r6, r7, r8])
noncomputable def k460 : List Known := [rE p460 0 r2, rE p460 1 r3, rE p460 2 r6, rE p460 3 r7, rE p460 4 r8, aE p460 a5]
theorem w460 (x y z : Int) : Way x y z b460 := ⟨p460, k460, fun z => fb (by kernel_rfl) (by kernel_rfl) rfl, runs_ok (by kernel_rfl), by kernel_rfl⟩
noncomputable def b461 : List Bool := [true, false, true, true, false, false, true, true, true]
noncomputable def p461 : AV := pOf (.fs 6 false [r0, r2, r3, r6, r7, r8])
noncomputable def k461 : List Known := [rE p461 0 r0, rE p461 1 r2, rE p461 2 r3, rE p461 3 r6, rE p461 4 r7, rE p461 5 r8, aE p461 a6]
theorem w461 (x y z : Int) : Way x y z b461 := ⟨p461, k461, fun z => fb (by kernel_rfl) (by kernel_rfl) rfl, runs_ok (by kernel_rfl), by kernel_rfl⟩
noncomputable def b462 : List Bool := [false, true, true, true, false, false, true, true, true]
noncomputable def p462 : AV := pOf (.fs 6 false [r1, r2, r3, r6, r7, r8])
noncomputable def k462 : List Known := [rE p462 0 r1, rE p462 1 r2, rE p462 2 r3, rE p462 3 r6, rE p462 4 r7, rE p462 5 r8, aE p462 a6]
theorem w462 (x y z : Int) : Way x y z b462 := ⟨p462, k462, fun z => fb (by kernel_rfl) (by kernel_rfl) rfl, runs_ok (by kernel_rfl), by kernel_rfl⟩
noncomputable def b463 : List Bool := [true, true, true, true, false, false, true, true, true]
noncomputable def p463 : AV := pOf (.fs 6 false [r0, r1, r2, r3, r6, r7, r8])
noncomputable def k463 : List Known := [rE p463 0 r0, rE p463 1 r1, rE p463 2 r2, rE p463 3 r3, rE p463 4 r6, rE p463 5 r7, rE p463 6 r8, aE p463 a7]
theorem w463 (x y z : Int) : Way x y z b463 := ⟨p463, k463, fun z => fb (by kernel_rfl) (by kernel_rfl) rfl, runs_ok (by kernel_rfl), by kernel_rfl⟩
noncomputable def b464 : List Bool := [false, false, false, false, true, false, true, true, true]
noncomputable def p464 : AV := pOf (.fs 6 false [r4, r6, r7, r8])
noncomputable def k464 : List Known := [rE p464 0 r4, rE p464 1 r6, rE p464 2 r7, rE p464 3 r8, aE p464 a4]
theorem w464 (x y z : Int) : Way x y z b464 := ⟨p464, k464, fun z => fb (by kernel_rfl) (by kernel_rfl) rfl, runs_ok (by kernel_rfl), by kernel_rfl⟩
noncomputable def b465 : List Bool := [true, false, false, false, true, false, true, true, true]
noncomputable def p465 : AV := pOf (.fs 6 false [r0, r4, r6, r7, r8])
noncomputable def k465 : List Known := [rE p465 0 r0, rE p465 1 r4, rE p465 2 r6, rE p465 3 r7, rE p465 4 r8, aE p465 a5]
theorem w465 (x y z : Int) : Way x y z b465 := ⟨p465, k465, fun z => fb (by kernel_rfl) (by kernel_rfl) rfl, runs_ok (by kernel_rfl), by kernel_rfl⟩
noncomputable def b466 : List Bool := [false, true, false, false, true, false, true, true, true]
noncomputable def p466 : AV := pOf (.fs 6 false [r1, r4, r6, r7, r8])
noncomputable def k466 : List Known := [rE p466 0 r1, rE p466 1 r4, rE p466 2 r6, rE p466 3 r7, rE p466 4 r8, aE p466 a5]
theorem w466 (x y z : Int) : Way x y z b466 := ⟨p466, k466, fun z => fb (by kernel_rfl) (by kernel_rfl) rfl, runs_ok (by kernel_rfl), by kernel_rfl⟩
noncomputable def b467 : List Bool := [true, true, false, false, true, false, true, true, true]
noncomputable def p467 : AV := pOf (.fs 6 false [r0, r1, r4, r6, r7, r8])
noncomputable def k467 : List Known := [rE p467 0 r0, rE p467 1 r1, rE p467 2 r4, rE p467 3 r6, rE p467 4 r7, rE p467 5 r8, aE p467 a6]
theorem w467 (x y z : Int) : Way x y z b467 := ⟨p467, k467, fun z => fb (by kernel_rfl) (by kernel_rfl) rfl, runs_ok (by kernel_rfl), by kernel_rfl⟩
noncomputable def b468 : List Bool := [false, false, true, false, true, false, true, true, true]
noncomputable def p468 : AV := pOf (.fs 6 false [r2, r4, r6, r7, r8])
noncomputable def k468 : List Known := [rE p468 0 r2, rE p468 1 r4, rE p468 2 r6, rE p468 3 r7, rE p468 4 r8, aE p468 a5]
theorem w468 (x y z : Int) : Way x y z b468 := ⟨p468, k468, fun z => fb (by kernel_rfl) (by kernel_rfl) rfl, runs_ok (by kernel_rfl), by kernel_rfl⟩
end Go.Zev.Ob
