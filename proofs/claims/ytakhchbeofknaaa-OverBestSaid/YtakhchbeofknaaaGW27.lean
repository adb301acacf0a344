/-
  Printed by ob.py: choices of heads; what is known of each; its ways.
-/
import Derived.Test.YtakhchbeofknaaaGF
set_option linter.unusedVariables false
set_option maxRecDepth 20000
namespace Go.Zev.Ob
open Go Go.Zev Go.Proofs
noncomputable def b383 : List Bool := [true, true, true, true, true, true, true, false, true]
noncomputable def p383 : AV := pOf (.fs 6 false [r0, r1, r2, r3, r4, r5, r6, r8])
noncomputable def k383 : List Known := [rE p383 0 r0, rE p383 1 r1, rE p383 2 r2, rE p383 3 r3, rE p383 4 r4, rE p383 5 r5, rE p383 6 r6, rE p383 7 r8, aE p383 a8]
theorem w383 (x y z : Int) : Way x y z b383 := ⟨p383, k383, fun z => fb (by kernel_rfl) (by kernel_rfl) rfl, runs_ok (by kernel_rfl), by kernel_rfl⟩
noncomputable def b384 : List Bool := [false, false, false, false, false, false, false, true, true]
noncomputable def p384 : AV := pOf (.fs 6 false [r7, r8])
noncomputable def k384 : List Known := [rE p384 0 r7, rE p384 1 r8, aE p384 a2]
theorem w384 (x y z : Int) : Way x y z b384 := ⟨p384, k384, fun z => fb (by kernel_rfl) (by kernel_rfl) rfl, runs_ok (by kernel_rfl), by kernel_rfl⟩
noncomputable def b385 : List Bool := [true, false, false, false, false, false, false, true, true]
noncomputable def p385 : AV := pOf (.fs 6 false [r0, r7, r8])
noncomputable def k385 : List Known := [rE p385 0 r0, rE p385 1 r7, rE p385 2 r8, aE p385 a3]
theorem w385 (x y z : Int) : Way x y z b385 := ⟨p385, k385, fun z => fb (by kernel_rfl) (by kernel_rfl) rfl, runs_ok (by kernel_rfl), by kernel_rfl⟩
noncomputable def b386 : List Bool := [false, true, false, false, false, false, false, true, true]
noncomputable def p386 : AV := pOf (.fs 6 false [r1, r7, r8])
noncomputable def k386 : List Known := [rE p386 0 r1, rE p386 1 r7, rE p386 2 r8, aE p386 a3]
theorem w386 (x y z : Int) : Way x y z b386 := ⟨p386, k386, fun z => fb (by kernel_rfl) (by kernel_rfl) rfl, runs_ok (by kernel_rfl), by kernel_rfl⟩
noncomputable def b387 : List Bool := [true, true, false, false, false, false, false, true, true]
noncomputable def p387 : AV := pOf (.fs 6 false [r0, r1, r7, r8])
noncomputable def k387 : List Known := [rE p387 0 r0, rE p387 1 r1, rE p387 2 r7, rE p387 3 r8, aE p387 a4]
theorem w387 (x y z : Int) : Way x y z b387 := ⟨p387, k387, fun z => fb (by kernel_rfl) (by kernel_rfl) rfl, runs_ok (by kernel_rfl), by kernel_rfl⟩
noncomputable def b388 : List Bool := [false, false, true, false, false, false, false, true, true]
noncomputable def p388 : AV := pOf (.fs 6 false [r2, r7, r8])
noncomputable def k388 : List Known := [rE p388 0 r2, rE p388 1 r7, rE p388 2 r8, aE p388 a3]
theorem w388 (x y z : Int) : Way x y z b388 := ⟨p388, k388, fun z => fb (by kernel_rfl) (by kernel_rfl) rfl, runs_ok (by kernel_rfl), by kernel_rfl⟩
noncomputable def b389 : List Bool := [true, false, true, false, false, false, false, true, true]
noncomputable def p389 : AV := pOf (.fs 6 false [r0, r2, r7, r8])
noncomputable def k389 : List Known := [rE p389 0 r0, rE p389 1 r2, rE p389 2 r7, rE p389 3 r8, aE p389 a4]
theorem w389 (x y z : Int) : Way x y z b389 := ⟨p389, k389, fun z => fb (by kernel_rfl) (by kernel_rfl) rfl, runs_ok (by kernel_rfl), by kernel_rfl⟩
noncomputable def b390 : List Bool := [false, true, true, false, false, false, false, true, true]
noncomputable def p390 : AV := pOf (.fs 6 false [r1, r2, r7, r8])
noncomputable def k390 : List Known := [rE p390 0 r1, rE p390 1 r2, rE p390 2 r7, rE p390 3 r8, aE p390 a4]
theorem w390 (x y z : Int) : Way x y z b390 := ⟨p390, k390, fun z => fb (by kernel_rfl) (by kernel_rfl) rfl, runs_ok (by kernel_rfl), by kernel_rfl⟩
noncomputable def b391 : List Bool := [true, true, true, false, false, false, false, true, true]
noncomputable def p391 : AV := pOf (.fs 6 false [r0, r1, r2, r7, r8])
noncomputable def k391 : List Known := [rE p391 0 r0, rE p391 1 r1, rE p391 2 r2, rE p391 3 r7, rE p391 4 r8, aE p391 a5]
theorem w391 (x y z : Int) : Way x y z b391 := ⟨p391, k391, fun z => fb (by kernel_rfl) (by kernel_rfl) rfl, runs_ok (by kernel_rfl), by kernel_rfl⟩
noncomputable def b392 : List Bool := [false, false, false, true, false, false, false, true, true]
noncomputable def p392 : AV := pOf (.fs 6 false [r3, r7, r8])
noncomputable def k392 : List Known := [rE p392 0 r3, rE p392 1 r7, rE p392 2 r8, aE p392 a3]
theorem w392 (x y z : Int) : Way x y z b392 := ⟨p392, k392, fun z => fb (by kernel_rfl) (by kernel_rfl) rfl, runs_ok (by kernel_rfl), by kernel_rfl⟩
noncomputable def b393 : List Bool := [true, false, false, true, false, false, false, true, true]
noncomputable def p393 : AV := pOf (.fs 6 false [r0, r3, r7, r8])
noncomputable def k393 : List Known := [rE p393 0 r0, rE p393 1 r3, rE p393 2 r7, rE p393 3 r8, aE p393 a4]
theorem w393 (x y z : Int) : Way x y z b393 := ⟨p393, k393, fun z => fb (by kernel_rfl) (by kernel_rfl) rfl, runs_ok (by kernel_rfl), by kernel_rfl⟩
noncomputable def b394 : List Bool := [false, true, false, true, false, false, false, true, true]
noncomputable def p394 : AV := pOf (.fs 6 false [r1, r3, r7, r8])
noncomputable def k394 : List Known := [rE p394 0 r1, rE p394 1 r3, rE p394 2 r7, rE p394 3 r8, aE p394 a4]
theorem w394 (x y z : Int) : Way x y z b394 := ⟨p394, k394, fun z => fb (by kernel_rfl) (by kernel_rfl) rfl, runs_ok (by kernel_rfl), by kernel_rfl⟩
noncomputable def b395 : List Bool := [true, true, false, true, false, false, false, true, true]
noncomputable def p395 : AV := pOf (.fs 6 false [r0, r1, r3, r7, r8])
noncomputable def k395 : List Known := [rE p395 0 r0, rE p395 1 r1, rE p395 2 r3, rE p395 3 r7, rE p395 4 r8, aE p395 a5]
theorem w395 (x y z : Int) : Way x y z b395 := ⟨p395, k395, fun z => fb (by kernel_rfl) (by kernel_rfl) rfl, runs_ok (by kernel_rfl), by kernel_rfl⟩
noncomputable def b396 : List Bool := [false, false, true, true, false, false, false, true, true]
noncomputable def p396 : AV := pOf (.fs 6 false [r2, r3, r7, r8])
noncomputable def k396 : List Known := [rE p396 0 r2, rE p396 1 r3, rE p396 2 r7, rE p396 3 r8, aE p396 a4]
theorem w396 (x y z : Int) : Way x y z b396 := ⟨p396, k396, fun z => fb (by kernel_rfl) (by kernel_rfl) rfl, runs_ok (by kernel_rfl), by kernel_rfl⟩
noncomputable def b397 : List Bool := [true, false, true, true, false, false, false, true, true]
noncomputable def p397 : AV := pOf (.fs 6 false [r0, r2, r3, r7, r8])
noncomputable def k397 : List Known := [rE p397 0 r0, rE p397 1 r2, rE p397 2 r3, rE p397 3 r7, rE p397 4 r8, aE p397 a5]
theorem w397 (x y z : Int) : Way x y z b397 := ⟨p397, k397, fun z => fb (by kernel_rfl) (by kernel_rfl) rfl, runs_ok (by kernel_rfl), by kernel_rfl⟩
end Go.Zev.Ob
