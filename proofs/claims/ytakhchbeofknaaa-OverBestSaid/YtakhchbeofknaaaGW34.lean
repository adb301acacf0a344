/-
  Printed by ob.py: choices of heads; what is known of each; its ways.
-/
import Derived.Test.YtakhchbeofknaaaGF
set_option linter.unusedVariables false
set_option maxRecDepth 20000
namespace Go.Zev.Ob
open Go Go.Zev Go.Proofs
noncomputable def b469 : List Bool := [true, false, true, false, true, false, true, true, true]
noncomputable def p469 : AV := pOf (.fs 6 false [r0, r2, r4, r6, r7, r8])
noncomputable def k469 : List Known := [rE p469 0 r0, rE p469 1 r2, rE p469 2 r4, rE p469 3 r6, rE p469 4 r7, rE p469 5 r8, aE p469 a6]
theorem w469 (x y z : Int) : Way x y z b469 := ⟨p469, k469, fun z => fb (by kernel_rfl) (by kernel_rfl) rfl, runs_ok (by kernel_rfl), by kernel_rfl⟩
noncomputable def b470 : List Bool := [false, true, true, false, true, false, true, true, true]
noncomputable def p470 : AV := pOf (.fs 6 false [r1, r2, r4, r6, r7, r8])
noncomputable def k470 : List Known := [rE p470 0 r1, rE p470 1 r2, rE p470 2 r4, rE p470 3 r6, rE p470 4 r7, rE p470 5 r8, aE p470 a6]
theorem w470 (x y z : Int) : Way x y z b470 := ⟨p470, k470, fun z => fb (by kernel_rfl) (by kernel_rfl) rfl, runs_ok (by kernel_rfl), by kernel_rfl⟩
noncomputable def b471 : List Bool := [true, true, true, false, true, false, true, true, true]
noncomputable def p471 : AV := pOf (.fs 6 false [r0, r1, r2, r4, r6, r7, r8])
noncomputable def k471 : List Known := [rE p471 0 r0, rE p471 1 r1, rE p471 2 r2, rE p471 3 r4, rE p471 4 r6, rE p471 5 r7, rE p471 6 r8, aE p471 a7]
theorem w471 (x y z : Int) : Way x y z b471 := ⟨p471, k471, fun z => fb (by kernel_rfl) (by kernel_rfl) rfl, runs_ok (by kernel_rfl), by kernel_rfl⟩
noncomputable def b472 : List Bool := [false, false, false, true, true, false, true, true, true]
noncomputable def p472 : AV := pOf (.fs 6 false [r3, r4, r6, r7, r8])
noncomputable def k472 : List Known := [rE p472 0 r3, rE p472 1 r4, rE p472 2 r6, rE p472 3 r7, rE p472 4 r8, aE p472 a5]
theorem w472 (x y z : Int) : Way x y z b472 := ⟨p472, k472, fun z => fb (by kernel_rfl) (by kernel_rfl) rfl, runs_ok (by kernel_rfl), by kernel_rfl⟩
noncomputable def b473 : List Bool := [true, false, false, true, true, false, true, true, true]
noncomputable def p473 : AV := pOf (.fs 6 false [r0, r3, r4, r6, r7, r8])
noncomputable def k473 : List Known := [rE p473 0 r0, rE p473 1 r3, rE p473 2 r4, rE p473 3 r6, rE p473 4 r7, rE p473 5 r8, aE p473 a6]
theorem w473 (x y z : Int) : Way x y z b473 := ⟨p473, k473, fun z => fb (by kernel_rfl) (by kernel_rfl) rfl, runs_ok (by kernel_rfl), by kernel_rfl⟩
noncomputable def b474 : List Bool := [false, true, false, true, true, false, true, true, true]
noncomputable def p474 : AV := pOf (.fs 6 false [r1, r3, r4, r6, r7, r8])
noncomputable def k474 : List Known := [rE p474 0 r1, rE p474 1 r3, rE p474 2 r4, rE p474 3 r6, rE p474 4 r7, rE p474 5 r8, aE p474 a6]
theorem w474 (x y z : Int) : Way x y z b474 := ⟨p474, k474, fun z => fb (by kernel_rfl) (by kernel_rfl) rfl, runs_ok (by kernel_rfl), by kernel_rfl⟩
noncomputable def b475 : List Bool := [true, true, false, true, true, false, true, true, true]
noncomputable def p475 : AV := pOf (.fs 6 false [r0, r1, r3, r4, r6, r7, r8])
noncomputable def k475 : List Known := [rE p475 0 r0, rE p475 1 r1, rE p475 2 r3, rE p475 3 r4, rE p475 4 r6, rE p475 5 r7, rE p475 6 r8, aE p475 a7]
theorem w475 (x y z : Int) : Way x y z b475 := ⟨p475, k475, fun z => fb (by kernel_rfl) (by kernel_rfl) rfl, runs_ok (by kernel_rfl), by kernel_rfl⟩
noncomputable def b476 : List Bool := [false, false, true, true, true, false, true, true, true]
noncomputable def p476 : AV := pOf (.fs 6 false [r2, r3, r4, r6, r7, r8])
noncomputable def k476 : List Known := [rE p476 0 r2, rE p476 1 r3, rE p476 2 r4, rE p476 3 r6, rE p476 4 r7, rE p476 5 r8, aE p476 a6]
theorem w476 (x y z : Int) : Way x y z b476 := ⟨p476, k476, fun z => fb (by kernel_rfl) (by kernel_rfl) rfl, runs_ok (by kernel_rfl), by kernel_rfl⟩
noncomputable def b477 : List Bool := [true, false, true, true, true, false, true, true, true]
noncomputable def p477 : AV := pOf (.fs 6 false [r0, r2, r3, r4, r6, r7, r8])
noncomputable def k477 : List Known := [rE p477 0 r0, rE p477 1 r2, rE p477 2 r3, rE p477 3 r4, rE p477 4 r6, rE p477 5 r7, rE p477 6 r8, aE p477 a7]
theorem w477 (x y z : Int) : Way x y z b477 := ⟨p477, k477, fun z => fb (by kernel_rfl) (by kernel_rfl) rfl, runs_ok (by kernel_rfl), by kernel_rfl⟩
end Go.Zev.Ob
