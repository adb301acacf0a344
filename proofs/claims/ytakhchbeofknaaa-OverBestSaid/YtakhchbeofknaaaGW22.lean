/-
  Printed by ob.py: choices of heads; what is known of each; its ways.
-/
import Derived.Test.YtakhchbeofknaaaGF
set_option linter.unusedVariables false
set_option maxRecDepth 20000
namespace Go.Zev.Ob
open Go Go.Zev Go.Proofs
noncomputable def b320 : List Bool := [false, false, false, false, false, false, true, false, true]
noncomputable def p320 : AV := pOf (.fs 6 false [r6, r8])
noncomputable def k320 : List Known := [rE p320 0 r6, rE p320 1 r8, aE p320 a2]
theorem w320 (x y z : Int) : Way x y z b320 := ⟨p320, k320, fun z => fb (by kernel_rfl) (by kernel_rfl) rfl, runs_ok (by kernel_rfl), by kernel_rfl⟩
noncomputable def b321 : List Bool := [true, false, false, false, false, false, true, false, true]
noncomputable def p321 : AV := pOf (.fs 6 false [r0, r6, r8])
noncomputable def k321 : List Known := [rE p321 0 r0, rE p321 1 r6, rE p321 2 r8, aE p321 a3]
theorem w321 (x y z : Int) : Way x y z b321 := ⟨p321, k321, fun z => fb (by kernel_rfl) (by kernel_rfl) rfl, runs_ok (by kernel_rfl), by kernel_rfl⟩
noncomputable def b322 : List Bool := [false, true, false, false, false, false, true, false, true]
noncomputable def p322 : AV := pOf (.fs 6 false [r1, r6, r8])
noncomputable def k322 : List Known := [rE p322 0 r1, rE p322 1 r6, rE p322 2 r8, aE p322 a3]
theorem w322 (x y z : Int) : Way x y z b322 := ⟨p322, k322, fun z => fb (by kernel_rfl) (by kernel_rfl) rfl, runs_ok (by kernel_rfl), by kernel_rfl⟩
noncomputable def b323 : List Bool := [true, true, false, false, false, false, true, false, true]
noncomputable def p323 : AV := pOf (.fs 6 false [r0, r1, r6, r8])
noncomputable def k323 : List Known := [rE p323 0 r0, rE p323 1 r1, rE p323 2 r6, rE p323 3 r8, aE p323 a4]
theorem w323 (x y z : Int) : Way x y z b323 := ⟨p323, k323, fun z => fb (by kernel_rfl) (by kernel_rfl) rfl, runs_ok (by kernel_rfl), by kernel_rfl⟩
noncomputable def b324 : List Bool := [false, false, true, false, false, false, true, false, true]
noncomputable def p324 : AV := pOf (.fs 6 false [r2, r6, r8])
noncomputable def k324 : List Known := [rE p324 0 r2, rE p324 1 r6, rE p324 2 r8, aE p324 a3]
theorem w324 (x y z : Int) : Way x y z b324 := ⟨p324, k324, fun z => fb (by kernel_rfl) (by kernel_rfl) rfl, runs_ok (by kernel_rfl), by kernel_rfl⟩
noncomputable def b325 : List Bool := [true, false, true, false, false, false, true, false, true]
noncomputable def p325 : AV := pOf (.fs 6 false [r0, r2, r6, r8])
noncomputable def k325 : List Known := [rE p325 0 r0, rE p325 1 r2, rE p325 2 r6, rE p325 3 r8, aE p325 a4]
theorem w325 (x y z : Int) : Way x y z b325 := ⟨p325, k325, fun z => fb (by kernel_rfl) (by kernel_rfl) rfl, runs_ok (by kernel_rfl), by kernel_rfl⟩
noncomputable def b326 : List Bool := [false, true, true, false, false, false, true, false, true]
noncomputable def p326 : AV := pOf (.fs 6 false [r1, r2, r6, r8])
noncomputable def k326 : List Known := [rE p326 0 r1, rE p326 1 r2, rE p326 2 r6, rE p326 3 r8, aE p326 a4]
theorem w326 (x y z : Int) : Way x y z b326 := ⟨p326, k326, fun z => fb (by kernel_rfl) (by kernel_rfl) rfl, runs_ok (by kernel_rfl), by kernel_rfl⟩
noncomputable def b327 : List Bool := [true, true, true, false, false, false, true, false, true]
noncomputable def p327 : AV := pOf (.fs 6 false [r0, r1, r2, r6, r8])
noncomputable def k327 : List Known := [rE p327 0 r0, rE p327 1 r1, rE p327 2 r2, rE p327 3 r6, rE p327 4 r8, aE p327 a5]
theorem w327 (x y z : Int) : Way x y z b327 := ⟨p327, k327, fun z => fb (by kernel_rfl) (by kernel_rfl) rfl, runs_ok (by kernel_rfl), by kernel_rfl⟩
noncomputable def b328 : List Bool := [false, false, false, true, false, false, true, false, true]
noncomputable def p328 : AV := pOf (.fs 6 false [r3, r6, r8])
noncomputable def k328 : List Known := [rE p328 0 r3, rE p328 1 r6, rE p328 2 r8, aE p328 a3]
theorem w328 (x y z : Int) : Way x y z b328 := ⟨p328, k328, fun z => fb (by kernel_rfl) (by kernel_rfl) rfl, runs_ok (by kernel_rfl), by kernel_rfl⟩
noncomputable def b329 : List Bool := [true, false, false, true, false, false, true, false, true]
noncomputable def p329 : AV := pOf (.fs 6 false [r0, r3, r6, r8])
noncomputable def k329 : List Known := [rE p329 0 r0, rE p329 1 r3, rE p329 2 r6, rE p329 3 r8, aE p329 a4]
theorem w329 (x y z : Int) : Way x y z b329 := ⟨p329, k329, fun z => fb (by kernel_rfl) (by kernel_rfl) rfl, runs_ok (by kernel_rfl), by kernel_rfl⟩
noncomputable def b330 : List Bool := [false, true, false, true, false, false, true, false, true]
noncomputable def p330 : AV := pOf (.fs 6 false [r1, r3, r6, r8])
noncomputable def k330 : List Known := [rE p330 0 r1, rE p330 1 r3, rE p330 2 r6, rE p330 3 r8, aE p330 a4]
theorem w330 (x y z : Int) : Way x y z b330 := ⟨p330, k330, fun z => fb (by kernel_rfl) (by kernel_rfl) rfl, runs_ok (by kernel_rfl), by kernel_rfl⟩
noncomputable def b331 : List Bool := [true, true, false, true, false, false, true, false, true]
noncomputable def p331 : AV := pOf (.fs 6 false [r0, r1, r3, r6, r8])
noncomputable def k331 : List Known := [rE p331 0 r0, rE p331 1 r1, rE p331 2 r3, rE p331 3 r6, rE p331 4 r8, aE p331 a5]
theorem w331 (x y z : Int) : Way x y z b331 := ⟨p331, k331, fun z => fb (by kernel_rfl) (by kernel_rfl) rfl, runs_ok (by kernel_rfl), by kernel_rfl⟩
noncomputable def b332 : List Bool := [false, false, true, true, false, false, true, false, true]
noncomputable def p332 : AV := pOf (.fs 6 false [r2, r3, r6, r8])
noncomputable def k332 : List Known := [rE p332 0 r2, rE p332 1 r3, rE p332 2 r6, rE p332 3 r8, aE p332 a4]
theorem w332 (x y z : Int) : Way x y z b332 := ⟨p332, k332, fun z => fb (by kernel_rfl) (by kernel_rfl) rfl, runs_ok (by kernel_rfl), by kernel_rfl⟩
noncomputable def b333 : List Bool := [true, false, true, true, false, false, true, false, true]
noncomputable def p333 : AV := pOf (.fs 6 false [r0, r2, r3, r6, r8])
noncomputable def k333 : List Known := [rE p333 0 r0, rE p333 1 r2, rE p333 2 r3, rE p333 3 r6, rE p333 4 r8, aE p333 a5]
theorem w333 (x y z : Int) : Way x y z b333 := ⟨p333, k333, fun z => fb (by kernel_rfl) (by kernel_rfl) rfl, runs_ok (by kernel_rfl), by kernel_rfl⟩
noncomputable def b334 : List Bool := [false, true, true, true, false, false, true, false, true]
noncomputable def p334 : AV := pOf (.fs 6 false [r1, r2, r3, r6, r8])
noncomputable def k334 : List Known := [rE p334 0 r1, rE p334 1 r2, rE p334 2 r3, rE p334 3 r6, rE p334 4 r8, aE p334 a5]
theorem w334 (x y z : Int) : Way x y z b334 := ⟨p334, k334, fun z => fb (by kernel_rfl) (by kernel_rfl) rfl, runs_ok (by kernel_rfl), by kernel_rfl⟩
noncomputable def b335 : List Bool := [true, true, true, true, false, false, true, false, true]
noncomputable def p335 : AV := pOf (.fs 6 false [r0, r1, r2, r3, r6, r8])
noncomputable def k335 : List Known := [rE p335 0 r0, rE p335 1 r1, rE p335 2 r2, rE p335 3 r3, rE p335 4 r6, rE p335 5 r8, aE p335 a6]
theorem w335 (x y z : Int) : Way x y z b335 := ⟨p335, k335, fun z => fb (by kernel_rfl) (by kernel_rfl) rfl, runs_ok (by kernel_rfl), by kernel_rfl⟩
noncomputable def b336 : List Bool := [false, false, false, false, true, false, true, false, true]
noncomputable def p336 : AV := pOf (.fs 6 false [r4, r6, r8])
noncomputable def k336 : List Known := [rE p336 0 r4, rE p336 1 r6, rE p336 2 r8, aE p336 a3]
theorem w336 (x y z : Int) : Way x y z b336 := ⟨p336, k336, fun z => fb (by kernel_rfl) (by kernel_rfl) rfl, runs_ok (by kernel_rfl), by kernel_rfl⟩
end Go.Zev.Ob
