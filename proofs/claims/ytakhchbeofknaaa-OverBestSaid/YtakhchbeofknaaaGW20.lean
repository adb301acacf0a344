/-
  Printed by ob.py: choices of heads; what is known of each; its ways.
-/
import Derived.Test.YtakhchbeofknaaaGF
set_option linter.unusedVariables false
set_option maxRecDepth 20000
namespace Go.Zev.Ob
open Go Go.Zev Go.Proofs
noncomputable def b291 : List Bool := [true, true, false, false, false, true, false, false, true]
noncomputable def p291 : AV := pOf (.fs 6 false [r0, r1, r5, r8])
noncomputable def k291 : List Known := [rE p291 0 r0, rE p291 1 r1, rE p291 2 r5, rE p291 3 r8, aE p291 a4]
theorem w291 (x y z : Int) : Way x y z b291 := ⟨p291, k291, fun z => fb (by kernel_rfl) (by kernel_rfl) rfl, runs_ok (by kernel_rfl), by kernel_rfl⟩
noncomputable def b292 : List Bool := [false, false, true, false, false, true, false, false, true]
noncomputable def p292 : AV := pOf (.fs 6 false [r2, r5, r8])
noncomputable def k292 : List Known := [rE p292 0 r2, rE p292 1 r5, rE p292 2 r8, aE p292 a3]
theorem w292 (x y z : Int) : Way x y z b292 := ⟨p292, k292, fun z => fb (by kernel_rfl) (by kernel_rfl) rfl, runs_ok (by kernel_rfl), by kernel_rfl⟩
noncomputable def b293 : List Bool := [true, false, true, false, false, true, false, false, true]
noncomputable def p293 : AV := pOf (.fs 6 false [r0, r2, r5, r8])
noncomputable def k293 : List Known := [rE p293 0 r0, rE p293 1 r2, rE p293 2 r5, rE p293 3 r8, aE p293 a4]
theorem w293 (x y z : Int) : Way x y z b293 := ⟨p293, k293, fun z => fb (by kernel_rfl) (by kernel_rfl) rfl, runs_ok (by kernel_rfl), by kernel_rfl⟩
noncomputable def b294 : List Bool := [false, true, true, false, false, true, false, false, true]
noncomputable def p294 : AV := pOf (.fs 6 false [r1, r2, r5, r8])
noncomputable def k294 : List Known := [rE p294 0 r1, rE p294 1 r2, rE p294 2 r5, rE p294 3 r8, aE p294 a4]
theorem w294 (x y z : Int) : Way x y z b294 := ⟨p294, k294, fun z => fb (by kernel_rfl) (by kernel_rfl) rfl, runs_ok (by kernel_rfl), by kernel_rfl⟩
noncomputable def b295 : List Bool := [true, true, true, false, false, true, false, false, true]
noncomputable def p295 : AV := pOf (.fs 6 false [r0, r1, r2, r5, r8])
noncomputable def k295 : List Known := [rE p295 0 r0, rE p295 1 r1, rE p295 2 r2, rE p295 3 r5, rE p295 4 r8, aE p295 a5]
theorem w295 (x y z : Int) : Way x y z b295 := ⟨p295, k295, fun z => fb (by kernel_rfl) (by kernel_rfl) rfl, runs_ok (by kernel_rfl), by kernel_rfl⟩
noncomputable def b296 : List Bool := [false, false, false, true, false, true, false, false, true]
noncomputable def p296 : AV := pOf (.fs 6 false [r3, r5, r8])
noncomputable def k296 : List Known := [rE p296 0 r3, rE p296 1 r5, rE p296 2 r8, aE p296 a3]
theorem w296 (x y z : Int) : Way x y z b296 := ⟨p296, k296, fun z => fb (by kernel_rfl) (by kernel_rfl) rfl, runs_ok (by kernel_rfl), by kernel_rfl⟩
noncomputable def b297 : List Bool := [true, false, false, true, false, true, false, false, true]
noncomputable def p297 : AV := pOf (.fs 6 false [r0, r3, r5, r8])
noncomputable def k297 : List Known := [rE p297 0 r0, rE p297 1 r3, rE p297 2 r5, rE p297 3 r8, aE p297 a4]
theorem w297 (x y z : Int) : Way x y z b297 := ⟨p297, k297, fun z => fb (by kernel_rfl) (by kernel_rfl) rfl, runs_ok (by kernel_rfl), by kernel_rfl⟩
noncomputable def b298 : List Bool := [false, true, false, true, false, true, false, false, true]
noncomputable def p298 : AV := pOf (.fs 6 false [r1, r3, r5, r8])
noncomputable def k298 : List Known := [rE p298 0 r1, rE p298 1 r3, rE p298 2 r5, rE p298 3 r8, aE p298 a4]
theorem w298 (x y z : Int) : Way x y z b298 := ⟨p298, k298, fun z => fb (by kernel_rfl) (by kernel_rfl) rfl, runs_ok (by kernel_rfl), by kernel_rfl⟩
noncomputable def b299 : List Bool := [true, true, false, true, false, true, false, false, true]
noncomputable def p299 : AV := pOf (.fs 6 false [r0, r1, r3, r5, r8])
noncomputable def k299 : List Known := [rE p299 0 r0, rE p299 1 r1, rE p299 2 r3, rE p299 3 r5, rE p299 4 r8, aE p299 a5]
theorem w299 (x y z : Int) : Way x y z b299 := ⟨p299, k299, fun z => fb (by kernel_rfl) (by kernel_rfl) rfl, runs_ok (by kernel_rfl), by kernel_rfl⟩
noncomputable def b300 : List Bool := [false, false, true, true, false, true, false, false, true]
noncomputable def p300 : AV := pOf (.fs 6 false [r2, r3, r5, r8])
noncomputable def k300 : List Known := [rE p300 0 r2, rE p300 1 r3, rE p300 2 r5, rE p300 3 r8, aE p300 a4]
theorem w300 (x y z : Int) : Way x y z b300 := ⟨p300, k300, fun z => fb (by kernel_rfl) (by kernel_rfl) rfl, runs_ok (by kernel_rfl), by kernel_rfl⟩
noncomputable def b301 : List Bool := [true, false, true, true, false, true, false, false, true]
noncomputable def p301 : AV := pOf (.fs 6 false [r0, r2, r3, r5, r8])
noncomputable def k301 : List Known := [rE p301 0 r0, rE p301 1 r2, rE p301 2 r3, rE p301 3 r5, rE p301 4 r8, aE p301 a5]
theorem w301 (x y z : Int) : Way x y z b301 := ⟨p301, k301, fun z => fb (by kernel_rfl) (by kernel_rfl) rfl, runs_ok (by kernel_rfl), by kernel_rfl⟩
noncomputable def b302 : List Bool := [false, true, true, true, false, true, false, false, true]
noncomputable def p302 : AV := pOf (.fs 6 false [r1, r2, r3, r5, r8])
noncomputable def k302 : List Known := [rE p302 0 r1, rE p302 1 r2, rE p302 2 r3, rE p302 3 r5, rE p302 4 r8, aE p302 a5]
theorem w302 (x y z : Int) : Way x y z b302 := ⟨p302, k302, fun z => fb (by kernel_rfl) (by kernel_rfl) rfl, runs_ok (by kernel_rfl), by kernel_rfl⟩
noncomputable def b303 : List Bool := [true, true, true, true, false, true, false, false, true]
noncomputable def p303 : AV := pOf (.fs 6 false [r0, r1, r2, r3, r5, r8])
noncomputable def k303 : List Known := [rE p303 0 r0, rE p303 1 r1, rE p303 2 r2, rE p303 3 r3, rE p303 4 r5, rE p303 5 r8, aE p303 a6]
theorem w303 (x y z : Int) : Way x y z b303 := ⟨p303, k303, fun z => fb (by kernel_rfl) (by kernel_rfl) rfl, runs_ok (by kernel_rfl), by kernel_rfl⟩
noncomputable def b304 : List Bool := [false, false, false, false, true, true, false, false, true]
noncomputable def p304 : AV := pOf (.fs 6 false [r4, r5, r8])
noncomputable def k304 : List Known := [rE p304 0 r4, rE p304 1 r5, rE p304 2 r8, aE p304 a3]
theorem w304 (x y z : Int) : Way x y z b304 := ⟨p304, k304, fun z => fb (by kernel_rfl) (by kernel_rfl) rfl, runs_ok (by kernel_rfl), by kernel_rfl⟩
noncomputable def b305 : List Bool := [true, false, false, false, true, true, false, false, true]
noncomputable def p305 : AV := pOf (.fs 6 false [r0, r4, r5, r8])
noncomputable def k305 : List Known := [rE p305 0 r0, rE p305 1 r4, rE p305 2 r5, rE p305 3 r8, aE p305 a4]
theorem w305 (x y z : Int) : Way x y z b305 := ⟨p305, k305, fun z => fb (by kernel_rfl) (by kernel_rfl) rfl, runs_ok (by kernel_rfl), by kernel_rfl⟩
noncomputable def b306 : List Bool := [false, true, false, false, true, true, false, false, true]
noncomputable def p306 : AV := pOf (.fs 6 false [r1, r4, r5, r8])
noncomputable def k306 : List Known := [rE p306 0 r1, rE p306 1 r4, rE p306 2 r5, rE p306 3 r8, aE p306 a4]
theorem w306 (x y z : Int) : Way x y z b306 := ⟨p306, k306, fun z => fb (by kernel_rfl) (by kernel_rfl) rfl, runs_ok (by kernel_rfl), by kernel_rfl⟩
end Go.Zev.Ob
