/-
  Printed by ob.py: choices of heads; what is known of each; its ways.
-/
import Derived.Test.YtakhchbeofknaaaGF
set_option linter.unusedVariables false
set_option maxRecDepth 20000
namespace Go.Zev.Ob
open Go Go.Zev Go.Proofs
noncomputable def b337 : List Bool := [true, false, false, false, true, false, true, false, true]
noncomputable def p337 : AV := pOf (.fs 6 false [r0, r4, r6, r8])
noncomputable def k337 : List Known := [rE p337 0 r0, rE p337 1 r4, rE p337 2 r6, rE p337 3 r8, aE p337 a4]
theorem w337 (x y z : Int) : Way x y z b337 := ⟨p337, k337, fun z => fb (by kernel_rfl) (by kernel_rfl) rfl, runs_ok (by kernel_rfl), by kernel_rfl⟩
noncomputable def b338 : List Bool := [false, true, false, false, true, false, true, false, true]
noncomputable def p338 : AV := pOf (.fs 6 false [r1, r4, r6, r8])
noncomputable def k338 : List Known := [rE p338 0 r1, rE p338 1 r4, rE p338 2 r6, rE p338 3 r8, aE p338 a4]
theorem w338 (x y z : Int) : Way x y z b338 := ⟨p338, k338, fun z => fb (by kernel_rfl) (by kernel_rfl) rfl, runs_ok (by kernel_rfl), by kernel_rfl⟩
noncomputable def b339 : List Bool := [true, true, false, false, true, false, true, false, true]
noncomputable def p339 : AV := pOf (.fs 6 false [r0, r1, r4, r6, r8])
noncomputable def k339 : List Known := [rE p339 0 r0, rE p339 1 r1, rE p339 2 r4, rE p339 3 r6, rE p339 4 r8, aE p339 a5]
theorem w339 (x y z : Int) : Way x y z b339 := ⟨p339, k339, fun z => fb (by kernel_rfl) (by kernel_rfl) rfl, runs_ok (by kernel_rfl), by kernel_rfl⟩
noncomputable def b340 : List Bool := [false, false, true, false, true, false, true, false, true]
noncomputable def p340 : AV := pOf (.fs 6 false [r2, r4, r6, r8])
noncomputable def k340 : List Known := [rE p340 0 r2, rE p340 1 r4, rE p340 2 r6, rE p340 3 r8, aE p340 a4]
theorem w340 (x y z : Int) : Way x y z b340 := ⟨p340, k340, fun z => fb (by kernel_rfl) (by kernel_rfl) rfl, runs_ok (by kernel_rfl), by kernel_rfl⟩
noncomputable def b341 : List Bool := [true, false, true, false, true, false, true, false, true]
noncomputable def p341 : AV := pOf (.fs 6 false [r0, r2, r4, r6, r8])
noncomputable def k341 : List Known := [rE p341 0 r0, rE p341 1 r2, rE p341 2 r4, rE p341 3 r6, rE p341 4 r8, aE p341 a5]
theorem w341 (x y z : Int) : Way x y z b341 := ⟨p341, k341, fun z => fb (by kernel_rfl) (by kernel_rfl) rfl, runs_ok (by kernel_rfl), by kernel_rfl⟩
noncomputable def b342 : List Bool := [false, true, true, false, true, false, true, false, true]
noncomputable def p342 : AV := pOf (.fs 6 false [r1, r2, r4, r6, r8])
noncomputable def k342 : List Known := [rE p342 0 r1, rE p342 1 r2, rE p342 2 r4, rE p342 3 r6, rE p342 4 r8, aE p342 a5]
theorem w342 (x y z : Int) : Way x y z b342 := ⟨p342, k342, fun z => fb (by kernel_rfl) (by kernel_rfl) rfl, runs_ok (by kernel_rfl), by kernel_rfl⟩
noncomputable def b343 : List Bool := [true, true, true, false, true, false, true, false, true]
noncomputable def p343 : AV := pOf (.fs 6 false [r0, r1, r2, r4, r6, r8])
noncomputable def k343 : List Known := [rE p343 0 r0, rE p343 1 r1, rE p343 2 r2, rE p343 3 r4, rE p343 4 r6, rE p343 5 r8, aE p343 a6]
theorem w343 (x y z : Int) : Way x y z b343 := ⟨p343, k343, fun z => fb (by kernel_rfl) (by kernel_rfl) rfl, runs_ok (by kernel_rfl), by kernel_rfl⟩
noncomputable def b344 : List Bool := [false, false, false, true, true, false, true, false, true]
noncomputable def p344 : AV := pOf (.fs 6 false [r3, r4, r6, r8])
noncomputable def k344 : List Known := [rE p344 0 r3, rE p344 1 r4, rE p344 2 r6, rE p344 3 r8, aE p344 a4]
theorem w344 (x y z : Int) : Way x y z b344 := ⟨p344, k344, fun z => fb (by kernel_rfl) (by kernel_rfl) rfl, runs_ok (by kernel_rfl), by kernel_rfl⟩
noncomputable def b345 : List Bool := [true, false, false, true, true, false, true, false, true]
noncomputable def p345 : AV := pOf (.fs 6 false [r0, r3, r4, r6, r8])
noncomputable def k345 : List Known := [rE p345 0 r0, rE p345 1 r3, rE p345 2 r4, rE p345 3 r6, rE p345 4 r8, aE p345 a5]
theorem w345 (x y z : Int) : Way x y z b345 := ⟨p345, k345, fun z => fb (by kernel_rfl) (by kernel_rfl) rfl, runs_ok (by kernel_rfl), by kernel_rfl⟩
noncomputable def b346 : List Bool := [false, true, false, true, true, false, true, false, true]
noncomputable def p346 : AV := pOf (.fs 6 false [r1, r3, r4, r6, r8])
noncomputable def k346 : List Known := [rE p346 0 r1, rE p346 1 r3, rE p346 2 r4, rE p346 3 r6, rE p346 4 r8, aE p346 a5]
theorem w346 (x y z : Int) : Way x y z b346 := ⟨p346, k346, fun z => fb (by kernel_rfl) (by kernel_rfl) rfl, runs_ok (by kernel_rfl), by kernel_rfl⟩
noncomputable def b347 : List Bool := [true, true, false, true, true, false, true, false, true]
noncomputable def p347 : AV := pOf (.fs 6 false [r0, r1, r3, r4, r6, r8])
noncomputable def k347 : List Known := [rE p347 0 r0, rE p347 1 r1, rE p347 2 r3, rE p347 3 r4, rE p347 4 r6, rE p347 5 r8, aE p347 a6]
theorem w347 (x y z : Int) : Way x y z b347 := ⟨p347, k347, fun z => fb (by kernel_rfl) (by kernel_rfl) rfl, runs_ok (by kernel_rfl), by kernel_rfl⟩
noncomputable def b348 : List Bool := [false, false, true, true, true, false, true, false, true]
noncomputable def p348 : AV := pOf (.fs 6 false [r2, r3, r4, r6, r8])
noncomputable def k348 : List Known := [rE p348 0 r2, rE p348 1 r3, rE p348 2 r4, rE p348 3 r6, rE p348 4 r8, aE p348 a5]
theorem w348 (x y z : Int) : Way x y z b348 := ⟨p348, k348, fun z => fb (by kernel_rfl) (by kernel_rfl) rfl, runs_ok (by kernel_rfl), by kernel_rfl⟩
noncomputable def b349 : List Bool := [true, false, true, true, true, false, true, false, true]
noncomputable def p349 : AV := pOf (.fs 6 false [r0, r2, r3, r4, r6, r8])
noncomputable def k349 : List Known := [rE p349 0 r0, rE p349 1 r2, rE p349 2 r3, rE p349 3 r4, rE p349 4 r6, rE p349 5 r8, aE p349 a6]
theorem w349 (x y z : Int) : Way x y z b349 := ⟨p349, k349, fun z => fb (by kernel_rfl) (by kernel_rfl) rfl, runs_ok (by kernel_rfl), by kernel_rfl⟩
noncomputable def b350 : List Bool := [false, true, true, true, true, false, true, false, true]
noncomputable def p350 : AV := pOf (.fs 6 false [r1, r2, r3, r4, r6, r8])
noncomputable def k350 : List Known := [rE p350 0 r1, rE p350 1 r2, rE p350 2 r3, rE p350 3 r4, rE p350 4 r6, rE p350 5 r8, aE p350 a6]
theorem w350 (x y z : Int) : Way x y z b350 := ⟨p350, k350, fun z => fb (by kernel_rfl) (by kernel_rfl) rfl, runs_ok (by kernel_rfl), by kernel_rfl⟩
end Go.Zev.Ob
