/-
  Printed by ob.py: choices of heads; what is known of each; its ways.
-/
import Derived.Test.YtakhchbeofknaaaGF
set_option linter.unusedVariables false
set_option maxRecDepth 20000
namespace Go.Zev.Ob
open Go Go.Zev Go.Proofs
noncomputable def b503 : List Bool := [true, true, true, false, true, true, true, true, true]
noncomputable def p503 : AV := pOf (.fs 6 false [r0, r1, r2, r4, r5, r6, r7, r8])
noncomputable def k503 : List Known := [rE p503 0 r0, rE p503 1 r1, rE p503 2 r2, rE p503 3 r4, rE p503 4 r5, rE p503 5 r6, rE p503 6 r7, rE p503 7 r8, aE p503 a8]
theorem w503 (x y z : Int) : Way x y z b503 := ⟨p503, k503, fun z => fb (by kernel_rfl) (by kernel_rfl) rfl, runs_ok (by kernel_rfl), by kernel_rfl⟩
noncomputable def b504 : List Bool := [false, false, false, true, true, true, true, true, true]
noncomputable def p504 : AV := pOf (.fs 6 false [r3, r4, r5, r6, r7, r8])
noncomputable def k504 : List Known := [rE p504 0 r3, rE p504 1 r4, rE p504 2 r5, rE p504 3 r6, rE p504 4 r7, rE p504 5 r8, aE p504 a6]
theorem w504 (x y z : Int) : Way x y z b504 := ⟨p504, k504, fun z => fb (by kernel_rfl) (by kernel_rfl) rfl, runs_ok (by kernel_rfl), by kernel_rfl⟩
noncomputable def b505 : List Bool := [true, false, false, true, true, true, true, true, true]
noncomputable def p505 : AV := pOf (.fs 6 false [r0, r3, r4, r5, r6, r7, r8])
noncomputable def k505 : List Known := [rE p505 0 r0, rE p505 1 r3, rE p505 2 r4, rE p505 3 r5, rE p505 4 r6, rE p505 5 r7, rE p505 6 r8, aE p505 a7]
theorem w505 (x y z : Int) : Way x y z b505 := ⟨p505, k505, fun z => fb (by kernel_rfl) (by kernel_rfl) rfl, runs_ok (by kernel_rfl), by kernel_rfl⟩
noncomputable def b506 : List Bool := [false, true, false, true, true, true, true, true, true]
noncomputable def p506 : AV := pOf (.fs 6 false [r1, r3, r4, r5, r6, r7, r8])
noncomputable def k506 : List Known := [rE p506 0 r1, rE p506 1 r3, rE p506 2 r4, rE p506 3 r5, rE p506 4 r6, rE p506 5 r7, rE p506 6 r8, aE p506 a7]
theorem w506 (x y z : Int) : Way x y z b506 := ⟨p506, k506, fun z => fb (by kernel_rfl) (by kernel_rfl) rfl, runs_ok (by kernel_rfl), by kernel_rfl⟩
noncomputable def b507 : List Bool := [true, true, false, true, true, true, true, true, true]
noncomputable def p507 : AV := pOf (.fs 6 false [r0, r1, r3, r4, r5, r6, r7, r8])
noncomputable def k507 : List Known := [rE p507 0 r0, rE p507 1 r1, rE p507 2 r3, rE p507 3 r4, rE p507 4 r5, rE p507 5 r6, rE p507 6 r7, rE p507 7 r8, aE p507 a8]
theorem w507 (x y z : Int) : Way x y z b507 := ⟨p507, k507, fun z => fb (by kernel_rfl) (by kernel_rfl) rfl, runs_ok (by kernel_rfl), by kernel_rfl⟩
noncomputable def b508 : List Bool := [false, false, true, true, true, true, true, true, true]
noncomputable def p508 : AV := pOf (.fs 6 false [r2, r3, r4, r5, r6, r7, r8])
noncomputable def k508 : List Known := [rE p508 0 r2, rE p508 1 r3, rE p508 2 r4, rE p508 3 r5, rE p508 4 r6, rE p508 5 r7, rE p508 6 r8, aE p508 a7]
theorem w508 (x y z : Int) : Way x y z b508 := ⟨p508, k508, fun z => fb (by kernel_rfl) (by kernel_rfl) rfl, runs_ok (by kernel_rfl), by kernel_rfl⟩
end Go.Zev.Ob
