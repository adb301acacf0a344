/-
  Printed by ob.py: choices of heads; what is known of each; its ways.
-/
import Derived.Test.YtakhchbeofknaaaGF
set_option linter.unusedVariables false
set_option maxRecDepth 20000
namespace Go.Zev.Ob
open Go Go.Zev Go.Proofs
noncomputable def b365 : List Bool := [true, false, true, true, false, true, true, false, true]
noncomputable def p365 : AV := pOf (.fs 6 false [r0, r2, r3, r5, r6, r8])
noncomputable def k365 : List Known := [rE p365 0 r0, rE p365 1 r2, rE p365 2 r3, rE p365 3 r5, rE p365 4 r6, rE p365 5 r8, aE p365 a6]
theorem w365 (x y z : Int) : Way x y z b365 := ⟨p365, k365, fun z => fb (by kernel_rfl) (by kernel_rfl) rfl, runs_ok (by kernel_rfl), by kernel_rfl⟩
noncomputable def b366 : List Bool := [false, true, true, true, false, true, true, false, true]
noncomputable def p366 : AV := pOf (.fs 6 false [r1, r2, r3, r5, r6, r8])
noncomputable def k366 : List Known := [rE p366 0 r1, rE p366 1 r2, rE p366 2 r3, rE p366 3 r5, rE p366 4 r6, rE p366 5 r8, aE p366 a6]
theorem w366 (x y z : Int) : Way x y z b366 := ⟨p366, k366, fun z => fb (by kernel_rfl) (by kernel_rfl) rfl, runs_ok (by kernel_rfl), by kernel_rfl⟩
noncomputable def b367 : List Bool := [true, true, true, true, false, true, true, false, true]
noncomputable def p367 : AV := pOf (.fs 6 false [r0, r1, r2, r3, r5, r6, r8])
noncomputable def k367 : List Known := [rE p367 0 r0, rE p367 1 r1, rE p367 2 r2, rE p367 3 r3, rE p367 4 r5, rE p367 5 r6, rE p367 6 r8, aE p367 a7]
theorem w367 (x y z : Int) : Way x y z b367 := ⟨p367, k367, fun z => fb (by kernel_rfl) (by kernel_rfl) rfl, runs_ok (by kernel_rfl), by kernel_rfl⟩
noncomputable def b368 : List Bool := [false, false, false, false, true, true, true, false, true]
noncomputable def p368 : AV := pOf (.fs 6 false [r4, r5, r6, r8])
noncomputable def k368 : List Known := [rE p368 0 r4, rE p368 1 r5, rE p368 2 r6, rE p368 3 r8, aE p368 a4]
theorem w368 (x y z : Int) : Way x y z b368 := ⟨p368, k368, fun z => fb (by kernel_rfl) (by kernel_rfl) rfl, runs_ok (by kernel_rfl), by kernel_rfl⟩
noncomputable def b369 : List Bool := [true, false, false, false, true, true, true, false, true]
noncomputable def p369 : AV := pOf (.fs 6 false [r0, r4, r5, r6, r8])
noncomputable def k369 : List Known := [rE p369 0 r0, rE p369 1 r4, rE p369 2 r5, rE p369 3 r6, rE p369 4 r8, aE p369 a5]
theorem w369 (x y z : Int) : Way x y z b369 := ⟨p369, k369, fun z => fb (by kernel_rfl) (by kernel_rfl) rfl, runs_ok (by kernel_rfl), by kernel_rfl⟩
noncomputable def b370 : List Bool := [false, true, false, false, true, true, true, false, true]
noncomputable def p370 : AV := pOf (.fs 6 false [r1, r4, r5, r6, r8])
noncomputable def k370 : List Known := [rE p370 0 r1, rE p370 1 r4, rE p370 2 r5, rE p370 3 r6, rE p370 4 r8, aE p370 a5]
theorem w370 (x y z : Int) : Way x y z b370 := ⟨p370, k370, fun z => fb (by kernel_rfl) (by kernel_rfl) rfl, runs_ok (by kernel_rfl), by kernel_rfl⟩
noncomputable def b371 : List Bool := [true, true, false, false, true, true, true, false, true]
noncomputable def p371 : AV := pOf (.fs 6 false [r0, r1, r4, r5, r6, r8])
noncomputable def k371 : List Known := [rE p371 0 r0, rE p371 1 r1, rE p371 2 r4, rE p371 3 r5, rE p371 4 r6, rE p371 5 r8, aE p371 a6]
theorem w371 (x y z : Int) : Way x y z b371 := ⟨p371, k371, fun z => fb (by kernel_rfl) (by kernel_rfl) rfl, runs_ok (by kernel_rfl), by kernel_rfl⟩
noncomputable def b372 : List Bool := [false, false, true, false, true, true, true, false, true]
noncomputable def p372 : AV := pOf (.fs 6 false [r2, r4, r5, r6, r8])
noncomputable def k372 : List Known := [rE p372 0 r2, rE p372 1 r4, rE p372 2 r5, rE p372 3 r6, rE p372 4 r8, aE p372 a5]
theorem w372 (x y z : Int) : Way x y z b372 := ⟨p372, k372, fun z => fb (by kernel_rfl) (by kernel_rfl) rfl, runs_ok (by kernel_rfl), by kernel_rfl⟩
noncomputable def b373 : List Bool := [true, false, true, false, true, true, true, false, true]
noncomputable def p373 : AV := pOf (.fs 6 false [r0, r2, r4, r5, r6, r8])
noncomputable def k373 : List Known := [rE p373 0 r0, rE p373 1 r2, rE p373 2 r4, rE p373 3 r5, rE p373 4 r6, rE p373 5 r8, aE p373 a6]
theorem w373 (x y z : Int) : Way x y z b373 := ⟨p373, k373, fun z => fb (by kernel_rfl) (by kernel_rfl) rfl, runs_ok (by kernel_rfl), by kernel_rfl⟩
noncomputable def b374 : List Bool := [false, true, true, false, true, true, true, false, true]
noncomputable def p374 : AV := pOf (.fs 6 false [r1, r2, r4, r5, r6, r8])
noncomputable def k374 : List Known := [rE p374 0 r1, rE p374 1 r2, rE p374 2 r4, rE p374 3 r5, rE p374 4 r6, rE p374 5 r8, aE p374 a6]
theorem w374 (x y z : Int) : Way x y z b374 := ⟨p374, k374, fun z => fb (by kernel_rfl) (by kernel_rfl) rfl, runs_ok (by kernel_rfl), by kernel_rfl⟩
end Go.Zev.Ob
