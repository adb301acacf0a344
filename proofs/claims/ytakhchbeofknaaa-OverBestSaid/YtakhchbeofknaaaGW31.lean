/-
  Printed by ob.py: choices of heads; what is known of each; its ways.
-/
import Derived.Test.YtakhchbeofknaaaGF
set_option linter.unusedVariables false
set_option maxRecDepth 20000
namespace Go.Zev.Ob
open Go Go.Zev Go.Proofs
noncomputable def b438 : List Bool := [false, true, true, false, true, true, false, true, true]
noncomputable def p438 : AV := pOf (.fs 6 false [r1, r2, r4, r5, r7, r8])
noncomputable def k438 : List Known := [rE p438 0 r1, rE p438 1 r2, rE p438 2 r4, rE p438 3 r5, rE p438 4 r7, rE p438 5 r8, aE p438 a6]
theorem w438 (x y z : Int) : Way x y z b438 := ⟨p438, k438, fun z => fb (by kernel_rfl) (by kernel_rfl) rfl, runs_ok (by kernel_rfl), by kernel_rfl⟩
noncomputable def b439 : List Bool := [true, true, true, false, true, true, false, true, true]
noncomputable def p439 : AV := pOf (.fs 6 false [r0, r1, r2, r4, r5, r7, r8])
noncomputable def k439 : List Known := [rE p439 0 r0, rE p439 1 r1, rE p439 2 r2, rE p439 3 r4, rE p439 4 r5, rE p439 5 r7, rE p439 6 r8, aE p439 a7]
theorem w439 (x y z : Int) : Way x y z b439 := ⟨p439, k439, fun z => fb (by kernel_rfl) (by kernel_rfl) rfl, runs_ok (by kernel_rfl), by kernel_rfl⟩
noncomputable def b440 : List Bool := [false, false, false, true, true, true, false, true, true]
noncomputable def p440 : AV := pOf (.fs 6 false [r3, r4, r5, r7, r8])
noncomputable def k440 : List Known := [rE p440 0 r3, rE p440 1 r4, rE p440 2 r5, rE p440 3 r7, rE p440 4 r8, aE p440 a5]
theorem w440 (x y z : Int) : Way x y z b440 := ⟨p440, k440, fun z => fb (by kernel_rfl) (by kernel_rfl) rfl, runs_ok (by kernel_rfl), by kernel_rfl⟩
noncomputable def b441 : List Bool := [true, false, false, true, true, true, false, true, true]
noncomputable def p441 : AV := pOf (.fs 6 false [r0, r3, r4, r5, r7, r8])
noncomputable def k441 : List Known := [rE p441 0 r0, rE p441 1 r3, rE p441 2 r4, rE p441 3 r5, rE p441 4 r7, rE p441 5 r8, aE p441 a6]
theorem w441 (x y z : Int) : Way x y z b441 := ⟨p441, k441, fun z => fb (by kernel_rfl) (by kernel_rfl) rfl, runs_ok (by kernel_rfl), by kernel_rfl⟩
noncomputable def b442 : List Bool := [false, true, false, true, true, true, false, true, true]
noncomputable def p442 : AV := pOf (.fs 6 false [r1, r3, r4, r5, r7, r8])
noncomputable def k442 : List Known := [rE p442 0 r1, rE p442 1 r3, rE p442 2 r4, rE p442 3 r5, rE p442 4 r7, rE p442 5 r8, aE p442 a6]
theorem w442 (x y z : Int) : Way x y z b442 := ⟨p442, k442, fun z => fb (by kernel_rfl) (by kernel_rfl) rfl, runs_ok (by kernel_rfl), by kernel_rfl⟩
noncomputable def b443 : List Bool := [true, true, false, true, true, true, false, true, true]
noncomputable def p443 : AV := pOf (.fs 6 false [r0, r1, r3, r4, r5, r7, r8])
noncomputable def k443 : List Known := [rE p443 0 r0, rE p443 1 r1, rE p443 2 r3, rE p443 3 r4, rE p443 4 r5, rE p443 5 r7, rE p443 6 r8, aE p443 a7]
theorem w443 (x y z : Int) : Way x y z b443 := ⟨p443, k443, fun z => fb (by kernel_rfl) (by kernel_rfl) rfl, runs_ok (by kernel_rfl), by kernel_rfl⟩
noncomputable def b444 : List Bool := [false, false, true, true, true, true, false, true, true]
noncomputable def p444 : AV := pOf (.fs 6 false [r2, r3, r4, r5, r7, r8])
noncomputable def k444 : List Known := [rE p444 0 r2, rE p444 1 r3, rE p444 2 r4, rE p444 3 r5, rE p444 4 r7, rE p444 5 r8, aE p444 a6]
theorem w444 (x y z : Int) : Way x y z b444 := ⟨p444, k444, fun z => fb (by kernel_rfl) (by kernel_rfl) rfl, runs_ok (by kernel_rfl), by kernel_rfl⟩
noncomputable def b445 : List Bool := [true, false, true, true, true, true, false, true, true]
noncomputable def p445 : AV := pOf (.fs 6 false [r0, r2, r3, r4, r5, r7, r8])
noncomputable def k445 : List Known := [rE p445 0 r0, rE p445 1 r2, rE p445 2 r3, rE p445 3 r4, rE p445 4 r5, rE p445 5 r7, rE p445 6 r8, aE p445 a7]
theorem w445 (x y z : Int) : Way x y z b445 := ⟨p445, k445, fun z => fb (by kernel_rfl) (by kernel_rfl) rfl, runs_ok (by kernel_rfl), by kernel_rfl⟩
end Go.Zev.Ob
