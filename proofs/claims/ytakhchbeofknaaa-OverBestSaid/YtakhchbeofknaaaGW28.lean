/-
  Printed by ob.py: choices of heads; what is known of each; its ways.
-/
import Derived.Test.YtakhchbeofknaaaGF
set_option linter.unusedVariables false
set_option maxRecDepth 20000
namespace Go.Zev.Ob
open Go Go.Zev Go.Proofs
noncomputable def b398 : List Bool := [false, true, true, true, false, false, false, true, true]
noncomputable def p398 : AV := pOf (.fs 6 false [r1, r2, r3, r7, r8])
noncomputable def k398 : List Known := [rE p398 0 r1, rE p398 1 r2, rE p398 2 r3, rE p398 3 r7, rE p398 4 r8, aE p398 a5]
theorem w398 (x y z : Int) : Way x y z b398 := ⟨p398, k398, fun z => fb (by kernel_rfl) (by kernel_rfl) rfl, runs_ok (by kernel_rfl), by kernel_rfl⟩
noncomputable def b399 : List Bool := [true, true, true, true, false, false, false, true, true]
noncomputable def p399 : AV := pOf (.fs 6 false [r0, r1, r2, r3, r7, r8])
noncomputable def k399 : List Known := [rE p399 0 r0, rE p399 1 r1, rE p399 2 r2, rE p399 3 r3, rE p399 4 r7, rE p399 5 r8, aE p399 a6]
theorem w399 (x y z : Int) : Way x y z b399 := ⟨p399, k399, fun z => fb (by kernel_rfl) (by kernel_rfl) rfl, runs_ok (by kernel_rfl), by kernel_rfl⟩
noncomputable def b400 : List Bool := [false, false, false, false, true, false, false, true, true]
noncomputable def p400 : AV := pOf (.fs 6 false [r4, r7, r8])
noncomputable def k400 : List Known := [rE p400 0 r4, rE p400 1 r7, rE p400 2 r8, aE p400 a3]
theorem w400 (x y z : Int) : Way x y z b400 := ⟨p400, k400, fun z => fb (by kernel_rfl) (by kernel_rfl) rfl, runs_ok (by kernel_rfl), by kernel_rfl⟩
noncomputable def b401 : List Bool := [true, false, false, false, true, false, false, true, true]
noncomputable def p401 : AV := pOf (.fs 6 false [r0, r4, r7, r8])
noncomputable def k401 : List Known := [rE p401 0 r0, rE p401 1 r4, rE p401 2 r7, rE p401 3 r8, aE p401 a4]
theorem w401 (x y z : Int) : Way x y z b401 := ⟨p401, k401, fun z => fb (by kernel_rfl) (by kernel_rfl) rfl, runs_ok (by kernel_rfl), by kernel_rfl⟩
noncomputable def b402 : List Bool := [false, true, false, false, true, false, false, true, true]
noncomputable def p402 : AV := pOf (.fs 6 false [r1, r4, r7, r8])
noncomputable def k402 : List Known := [rE p402 0 r1, rE p402 1 r4, rE p402 2 r7, rE p402 3 r8, aE p402 a4]
theorem w402 (x y z : Int) : Way x y z b402 := ⟨p402, k402, fun z => fb (by kernel_rfl) (by kernel_rfl) rfl, runs_ok (by kernel_rfl), by kernel_rfl⟩
noncomputable def b403 : List Bool := [true, true, false, false, true, false, false, true, true]
noncomputable def p403 : AV := pOf (.fs 6 false [r0, r1, r4, r7, r8])
noncomputable def k403 : List Known := [rE p403 0 r0, rE p403 1 r1, rE p403 2 r4, rE p403 3 r7, rE p403 4 r8, aE p403 a5]
theorem w403 (x y z : Int) : Way x y z b403 := ⟨p403, k403, fun z => fb (by kernel_rfl) (by kernel_rfl) rfl, runs_ok (by kernel_rfl), by kernel_rfl⟩
noncomputable def b404 : List Bool := [false, false, true, false, true, false, false, true, true]
noncomputable def p404 : AV := pOf (.fs 6 false [r2, r4, r7, r8])
noncomputable def k404 : List Known := [rE p404 0 r2, rE p404 1 r4, rE p404 2 r7, rE p404 3 r8, aE p404 a4]
theorem w404 (x y z : Int) : Way x y z b404 := ⟨p404, k404, fun z => fb (by kernel_rfl) (by kernel_rfl) rfl, runs_ok (by kernel_rfl), by kernel_rfl⟩
noncomputable def b405 : List Bool := [true, false, true, false, true, false, false, true, true]
noncomputable def p405 : AV := pOf (.fs 6 false [r0, r2, r4, r7, r8])
noncomputable def k405 : List Known := [rE p405 0 r0, rE p405 1 r2, rE p405 2 r4, rE p405 3 r7, rE p405 4 r8, aE p405 a5]
theorem w405 (x y z : Int) : Way x y z b405 := ⟨p405, k405, fun z => fb (by kernel_rfl) (by kernel_rfl) rfl, runs_ok (by kernel_rfl), by kernel_rfl⟩
noncomputable def b406 : List Bool := [false, true, true, false, true, false, false, true, true]
noncomputable def p406 : AV := pOf (.fs 6 false [r1, r2, r4, r7, r8])
noncomputable def k406 : List Known := [rE p406 0 r1, rE p406 1 r2, rE p406 2 r4, rE p406 3 r7, rE p406 4 r8, aE p406 a5]
theorem w406 (x y z : Int) : Way x y z b406 := ⟨p406, k406, fun z => fb (by kernel_rfl) (by kernel_rfl) rfl, runs_ok (by kernel_rfl), by kernel_rfl⟩
noncomputable def b407 : List Bool := [true, true, true, false, true, false, false, true, true]
noncomputable def p407 : AV := pOf (.fs 6 false [r0, r1, r2, r4, r7, r8])
noncomputable def k407 : List Known := [rE p407 0 r0, rE p407 1 r1, rE p407 2 r2, rE p407 3 r4, rE p407 4 r7, rE p407 5 r8, aE p407 a6]
theorem w407 (x y z : Int) : Way x y z b407 := ⟨p407, k407, fun z => fb (by kernel_rfl) (by kernel_rfl) rfl, runs_ok (by kernel_rfl), by kernel_rfl⟩
noncomputable def b408 : List Bool := [false, false, false, true, true, false, false, true, true]
noncomputable def p408 : AV := pOf (.fs 6 false [r3, r4, r7, r8])
noncomputable def k408 : List Known := [rE p408 0 r3, rE p408 1 r4, rE p408 2 r7, rE p408 3 r8, aE p408 a4]
theorem w408 (x y z : Int) : Way x y z b408 := ⟨p408, k408, fun z => fb (by kernel_rfl) (by kernel_rfl) rfl, runs_ok (by kernel_rfl), by kernel_rfl⟩
noncomputable def b409 : List Bool := [true, false, false, true, true, false, false, true, true]
noncomputable def p409 : AV := pOf (.fs 6 false [r0, r3, r4, r7, r8])
noncomputable def k409 : List Known := [rE p409 0 r0, rE p409 1 r3, rE p409 2 r4, rE p409 3 r7, rE p409 4 r8, aE p409 a5]
theorem w409 (x y z : Int) : Way x y z b409 := ⟨p409, k409, fun z => fb (by kernel_rfl) (by kernel_rfl) rfl, runs_ok (by kernel_rfl), by kernel_rfl⟩
noncomputable def b410 : List Bool := [false, true, false, true, true, false, false, true, true]
noncomputable def p410 : AV := pOf (.fs 6 false [r1, r3, r4, r7, r8])
noncomputable def k410 : List Known := [rE p410 0 r1, rE p410 1 r3, rE p410 2 r4, rE p410 3 r7, rE p410 4 r8, aE p410 a5]
theorem w410 (x y z : Int) : Way x y z b410 := ⟨p410, k410, fun z => fb (by kernel_rfl) (by kernel_rfl) rfl, runs_ok (by kernel_rfl), by kernel_rfl⟩
noncomputable def b411 : List Bool := [true, true, false, true, true, false, false, true, true]
noncomputable def p411 : AV := pOf (.fs 6 false [r0, r1, r3, r4, r7, r8])
noncomputable def k411 : List Known := [rE p411 0 r0, rE p411 1 r1, rE p411 2 r3, rE p411 3 r4, rE p411 4 r7, rE p411 5 r8, aE p411 a6]
theorem w411 (x y z : Int) : Way x y z b411 := ⟨p411, k411, fun z => fb (by kernel_rfl) (by kernel_rfl) rfl, runs_ok (by kernel_rfl), by kernel_rfl⟩
noncomputable def b412 : List Bool := [false, false, true, true, true, false, false, true, true]
noncomputable def p412 : AV := pOf (.fs 6 false [r2, r3, r4, r7, r8])
noncomputable def k412 : List Known := [rE p412 0 r2, rE p412 1 r3, rE p412 2 r4, rE p412 3 r7, rE p412 4 r8, aE p412 a5]
theorem w412 (x y z : Int) : Way x y z b412 := ⟨p412, k412, fun z => fb (by kernel_rfl) (by kernel_rfl) rfl, runs_ok (by kernel_rfl), by kernel_rfl⟩
end Go.Zev.Ob
