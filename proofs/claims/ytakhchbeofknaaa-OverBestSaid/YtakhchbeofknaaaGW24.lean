/-
  Printed by ob.py: choices of heads; what is known of each; its ways.
-/
import Derived.Test.YtakhchbeofknaaaGF
set_option linter.unusedVariables false
set_option maxRecDepth 20000
namespace Go.Zev.Ob
open Go Go.Zev Go.Proofs
noncomputable def b351 : List Bool := [true, true, true, true, true, false, true, false, true]
noncomputable def p351 : AV := pOf (.fs 6 false [r0, r1, r2, r3, r4, r6, r8])
noncomputable def k351 : List Known := [rE p351 0 r0, rE p351 1 r1, rE p351 2 r2, rE p351 3 r3, rE p351 4 r4, rE p351 5 r6, rE p351 6 r8, aE p351 a7]
theorem w351 (x y z : Int) : Way x y z b351 := ⟨p351, k351, fun z => fb (by kernel_rfl) (by kernel_rfl) rfl, runs_ok (by kernel_rfl), by kernel_rfl⟩
noncomputable def b352 : List Bool := [false, false, false, false, false, true, true, false, true]
noncomputable def p352 : AV := pOf (.fs 6 false [r5, r6, r8])
noncomputable def k352 : List Known := [rE p352 0 r5, rE p352 1 r6, rE p352 2 r8, aE p352 a3]
theorem w352 (x y z : Int) : Way x y z b352 := ⟨p352, k352, fun z => fb (by kernel_rfl) (by kernel_rfl) rfl, runs_ok (by kernel_rfl), by kernel_rfl⟩
noncomputable def b353 : List Bool := [true, false, false, false, false, true, true, false, true]
noncomputable def p353 : AV := pOf (.fs 6 false [r0, r5, r6, r8])
noncomputable def k353 : List Known := [rE p353 0 r0, rE p353 1 r5, rE p353 2 r6, rE p353 3 r8, aE p353 a4]
theorem w353 (x y z : Int) : Way x y z b353 := ⟨p353, k353, fun z => fb (by kernel_rfl) (by kernel_rfl) rfl, runs_ok (by kernel_rfl), by kernel_rfl⟩
noncomputable def b354 : List Bool := [false, true, false, false, false, true, true, false, true]
noncomputable def p354 : AV := pOf (.fs 6 false [r1, r5, r6, r8])
noncomputable def k354 : List Known := [rE p354 0 r1, rE p354 1 r5, rE p354 2 r6, rE p354 3 r8, aE p354 a4]
theorem w354 (x y z : Int) : Way x y z b354 := ⟨p354, k354, fun z => fb (by kernel_rfl) (by kernel_rfl) rfl, runs_ok (by kernel_rfl), by kernel_rfl⟩
noncomputable def b355 : List Bool := [true, true, false, false, false, true, true, false, true]
noncomputable def p355 : AV := pOf (.fs 6 false [r0, r1, r5, r6, r8])
noncomputable def k355 : List Known := [rE p355 0 r0, rE p355 1 r1, rE p355 2 r5, rE p355 3 r6, rE p355 4 r8, aE p355 a5]
theorem w355 (x y z : Int) : Way x y z b355 := ⟨p355, k355, fun z => fb (by kernel_rfl) (by kernel_rfl) rfl, runs_ok (by kernel_rfl), by kernel_rfl⟩
noncomputable def b356 : List Bool := [false, false, true, false, false, true, true, false, true]
noncomputable def p356 : AV := pOf (.fs 6 false [r2, r5, r6, r8])
noncomputable def k356 : List Known := [rE p356 0 r2, rE p356 1 r5, rE p356 2 r6, rE p356 3 r8, aE p356 a4]
theorem w356 (x y z : Int) : Way x y z b356 := ⟨p356, k356, fun z => fb (by kernel_rfl) (by kernel_rfl) rfl, runs_ok (by kernel_rfl), by kernel_rfl⟩
noncomputable def b357 : List Bool := [true, false, true, false, false, true, true, false, true]
noncomputable def p357 : AV := pOf (.fs 6 false [r0, r2, r5, r6, r8])
noncomputable def k357 : List Known := [rE p357 0 r0, rE p357 1 r2, rE p357 2 r5, rE p357 3 r6, rE p357 4 r8, aE p357 a5]
theorem w357 (x y z : Int) : Way x y z b357 := ⟨p357, k357, fun z => fb (by kernel_rfl) (by kernel_rfl) rfl, runs_ok (by kernel_rfl), by kernel_rfl⟩
noncomputable def b358 : List Bool := [false, true, true, false, false, true, true, false, true]
noncomputable def p358 : AV := pOf (.fs 6 false [r1, r2, r5, r6, r8])
noncomputable def k358 : List Known := [rE p358 0 r1, rE p358 1 r2, rE p358 2 r5, rE p358 3 r6, rE p358 4 r8, aE p358 a5]
theorem w358 (x y z : Int) : Way x y z b358 := ⟨p358, k358, fun z => fb (by kernel_rfl) (by kernel_rfl) rfl, runs_ok (by kernel_rfl), by kernel_rfl⟩
noncomputable def b359 : List Bool := [true, true, true, false, false, true, true, false, true]
noncomputable def p359 : AV := pOf (.fs 6 false [r0, r1, r2, r5, r6, r8])
noncomputable def k359 : List Known := [rE p359 0 r0, rE p359 1 r1, rE p359 2 r2, rE p359 3 r5, rE p359 4 r6, rE p359 5 r8, aE p359 a6]
theorem w359 (x y z : Int) : Way x y z b359 := ⟨p359, k359, fun z => fb (by kernel_rfl) (by kernel_rfl) rfl, runs_ok (by kernel_rfl), by kernel_rfl⟩
noncomputable def b360 : List Bool := [false, false, false, true, false, true, true, false, true]
noncomputable def p360 : AV := pOf (.fs 6 false [r3, r5, r6, r8])
noncomputable def k360 : List Known := [rE p360 0 r3, rE p360 1 r5, rE p360 2 r6, rE p360 3 r8, aE p360 a4]
theorem w360 (x y z : Int) : Way x y z b360 := ⟨p360, k360, fun z => fb (by kernel_rfl) (by kernel_rfl) rfl, runs_ok (by kernel_rfl), by kernel_rfl⟩
noncomputable def b361 : List Bool := [true, false, false, true, false, true, true, false, true]
noncomputable def p361 : AV := pOf (.fs 6 false [r0, r3, r5, r6, r8])
noncomputable def k361 : List Known := [rE p361 0 r0, rE p361 1 r3, rE p361 2 r5, rE p361 3 r6, rE p361 4 r8, aE p361 a5]
theorem w361 (x y z : Int) : Way x y z b361 := ⟨p361, k361, fun z => fb (by kernel_rfl) (by kernel_rfl) rfl, runs_ok (by kernel_rfl), by kernel_rfl⟩
noncomputable def b362 : List Bool := [false, true, false, true, false, true, true, false, true]
noncomputable def p362 : AV := pOf (.fs 6 false [r1, r3, r5, r6, r8])
noncomputable def k362 : List Known := [rE p362 0 r1, rE p362 1 r3, rE p362 2 r5, rE p362 3 r6, rE p362 4 r8, aE p362 a5]
theorem w362 (x y z : Int) : Way x y z b362 := ⟨p362, k362, fun z => fb (by kernel_rfl) (by kernel_rfl) rfl, runs_ok (by kernel_rfl), by kernel_rfl⟩
noncomputable def b363 : List Bool := [true, true, false, true, false, true, true, false, true]
noncomputable def p363 : AV := pOf (.fs 6 false [r0, r1, r3, r5, r6, r8])
noncomputable def k363 : List Known := [rE p363 0 r0, rE p363 1 r1, rE p363 2 r3, rE p363 3 r5, rE p363 4 r6, rE p363 5 r8, aE p363 a6]
theorem w363 (x y z : Int) : Way x y z b363 := ⟨p363, k363, fun z => fb (by kernel_rfl) (by kernel_rfl) rfl, runs_ok (by kernel_rfl), by kernel_rfl⟩
noncomputable def b364 : List Bool := [false, false, true, true, false, true, true, false, true]
noncomputable def p364 : AV := pOf (.fs 6 false [r2, r3, r5, r6, r8])
noncomputable def k364 : List Known := [rE p364 0 r2, rE p364 1 r3, rE p364 2 r5, rE p364 3 r6, rE p364 4 r8, aE p364 a5]
theorem w364 (x y z : Int) : Way x y z b364 := ⟨p364, k364, fun z => fb (by kernel_rfl) (by kernel_rfl) rfl, runs_ok (by kernel_rfl), by kernel_rfl⟩
end Go.Zev.Ob
