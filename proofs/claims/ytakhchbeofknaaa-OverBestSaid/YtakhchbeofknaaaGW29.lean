/-
  Printed by ob.py: choices of heads; what is known of each; its ways.
-/
import Derived.Test.YtakhchbeofknaaaGF
set_option linter.unusedVariables false
set_option maxRecDepth 20000
namespace Go.Zev.Ob
open Go Go.Zev Go.Proofs
noncomputable def b413 : List Bool := [true, false, true, true, true, false, false, true, true]
noncomputable def p413 : AV := pOf (.fs 6 false [r0, r2, r3, r4, r7, r8])
noncomputable def k413 : List Known := [rE p413 0 r0, rE p413 1 r2, rE p413 2 r3, rE p413 3 r4, rE p413 4 r7, rE p413 5 r8, aE p413 a6]
theorem w413 (x y z : Int) : Way x y z b413 := ⟨p413, k413, fun z => fb (by kernel_rfl) (by kernel_rfl) rfl, runs_ok (by kernel_rfl), by kernel_rfl⟩
noncomputable def b414 : List Bool := [false, true, true, true, true, false, false, true, true]
noncomputable def p414 : AV := pOf (.fs 6 false [r1, r2, r3, r4, r7, r8])
noncomputable def k414 : List Known := [rE p414 0 r1, rE p414 1 r2, rE p414 2 r3, rE p414 3 r4, rE p414 4 r7, rE p414 5 r8, aE p414 a6]
theorem w414 (x y z : Int) : Way x y z b414 := ⟨p414, k414, fun z => fb (by kernel_rfl) (by kernel_rfl) rfl, runs_ok (by kernel_rfl), by kernel_rfl⟩
noncomputable def b415 : List Bool := [true, true, true, true, true, false, false, true, true]
noncomputable def p415 : AV := pOf (.fs 6 false [r0, r1, r2, r3, r4, r7, r8])
noncomputable def k415 : List Known := [rE p415 0 r0, rE p415 1 r1, rE p415 2 r2, rE p415 3 r3, rE p415 4 r4, rE p415 5 r7, rE p415 6 r8, aE p415 a7]
theorem w415 (x y z : Int) : Way x y z b415 := ⟨p415, k415, fun z => fb (by kernel_rfl) (by kernel_rfl) rfl, runs_ok (by kernel_rfl), by kernel_rfl⟩
noncomputable def b416 : List Bool := [false, false, false, false, false, true, false, true, true]
noncomputable def p416 : AV := pOf (.fs 6 false [r5, r7, r8])
noncomputable def k416 : List Known := [rE p416 0 r5, rE p416 1 r7, rE p416 2 r8, aE p416 a3]
theorem w416 (x y z : Int) : Way x y z b416 := ⟨p416, k416, fun z => fb (by kernel_rfl) (by kernel_rfl) rfl, runs_ok (by kernel_rfl), by kernel_rfl⟩
noncomputable def b417 : List Bool := [true, false, false, false, false, true, false, true, true]
noncomputable def p417 : AV := pOf (.fs 6 false [r0, r5, r7, r8])
noncomputable def k417 : List Known := [rE p417 0 r0, rE p417 1 r5, rE p417 2 r7, rE p417 3 r8, aE p417 a4]
theorem w417 (x y z : Int) : Way x y z b417 := ⟨p417, k417, fun z => fb (by kernel_rfl) (by kernel_rfl) rfl, runs_ok (by kernel_rfl), by kernel_rfl⟩
noncomputable def b418 : List Bool := [false, true, false, false, false, true, false, true, true]
noncomputable def p418 : AV := pOf (.fs 6 false [r1, r5, r7, r8])
noncomputable def k418 : List Known := [rE p418 0 r1, rE p418 1 r5, rE p418 2 r7, rE p418 3 r8, aE p418 a4]
theorem w418 (x y z : Int) : Way x y z b418 := ⟨p418, k418, fun z => fb (by kernel_rfl) (by kernel_rfl) rfl, runs_ok (by kernel_rfl), by kernel_rfl⟩
noncomputable def b419 : List Bool := [true, true, false, false, false, true, false, true, true]
noncomputable def p419 : AV := pOf (.fs 6 false [r0, r1, r5, r7, r8])
noncomputable def k419 : List Known := [rE p419 0 r0, rE p419 1 r1, rE p419 2 r5, rE p419 3 r7, rE p419 4 r8, aE p419 a5]
theorem w419 (x y z : Int) : Way x y z b419 := ⟨p419, k419, fun z => fb (by kernel_rfl) (by kernel_rfl) rfl, runs_ok (by kernel_rfl), by kernel_rfl⟩
noncomputable def b420 : List Bool := [false, false, true, false, false, true, false, true, true]
noncomputable def p420 : AV := pOf (.fs 6 false [r2, r5, r7, r8])
noncomputable def k420 : List Known := [rE p420 0 r2, rE p420 1 r5, rE p420 2 r7, rE p420 3 r8, aE p420 a4]
theorem w420 (x y z : Int) : Way x y z b420 := ⟨p420, k420, fun z => fb (by kernel_rfl) (by kernel_rfl) rfl, runs_ok (by kernel_rfl), by kernel_rfl⟩
noncomputable def b421 : List Bool := [true, false, true, false, false, true, false, true, true]
noncomputable def p421 : AV := pOf (.fs 6 false [r0, r2, r5, r7, r8])
noncomputable def k421 : List Known := [rE p421 0 r0, rE p421 1 r2, rE p421 2 r5, rE p421 3 r7, rE p421 4 r8, aE p421 a5]
theorem w421 (x y z : Int) : Way x y z b421 := ⟨p421, k421, fun z => fb (by kernel_rfl) (by kernel_rfl) rfl, runs_ok (by kernel_rfl), by kernel_rfl⟩
noncomputable def b422 : List Bool := [false, true, true, false, false, true, false, true, true]
noncomputable def p422 : AV := pOf (.fs 6 false [r1, r2, r5, r7, r8])
noncomputable def k422 : List Known := [rE p422 0 r1, rE p422 1 r2, rE p422 2 r5, rE p422 3 r7, rE p422 4 r8, aE p422 a5]
theorem w422 (x y z : Int) : Way x y z b422 := ⟨p422, k422, fun z => fb (by kernel_rfl) (by kernel_rfl) rfl, runs_ok (by kernel_rfl), by kernel_rfl⟩
noncomputable def b423 : List Bool := [true, true, true, false, false, true, false, true, true]
noncomputable def p423 : AV := pOf (.fs 6 false [r0, r1, r2, r5, r7, r8])
noncomputable def k423 : List Known := [rE p423 0 r0, rE p423 1 r1, rE p423 2 r2, rE p423 3 r5, rE p423 4 r7, rE p423 5 r8, aE p423 a6]
theorem w423 (x y z : Int) : Way x y z b423 := ⟨p423, k423, fun z => fb (by kernel_rfl) (by kernel_rfl) rfl, runs_ok (by kernel_rfl), by kernel_rfl⟩
noncomputable def b424 : List Bool := [false, false, false, true, false, true, false, true, true]
noncomputable def p424 : AV := pOf (.fs 6 false [r3, r5, r7, r8])
noncomputable def k424 : List Known := [rE p424 0 r3, rE p424 1 r5, rE p424 2 r7, rE p424 3 r8, aE p424 a4]
theorem w424 (x y z : Int) : Way x y z b424 := ⟨p424, k424, fun z => fb (by kernel_rfl) (by kernel_rfl) rfl, runs_ok (by kernel_rfl), by kernel_rfl⟩
noncomputable def b425 : List Bool := [true, false, false, true, false, true, false, true, true]
noncomputable def p425 : AV := pOf (.fs 6 false [r0, r3, r5, r7, r8])
noncomputable def k425 : List Known := [rE p425 0 r0, rE p425 1 r3, rE p425 2 r5, rE p425 3 r7, rE p425 4 r8, aE p425 a5]
theorem w425 (x y z : Int) : Way x y z b425 := ⟨p425, k425, fun z => fb (by kernel_rfl) (by kernel_rfl) rfl, runs_ok (by kernel_rfl), by kernel_rfl⟩
end Go.Zev.Ob
