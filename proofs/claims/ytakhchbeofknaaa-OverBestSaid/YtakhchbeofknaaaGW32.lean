/-
  Printed by ob.py: choices of heads; what is known of each; its ways.
-/
import Derived.Test.YtakhchbeofknaaaGF
set_option linter.unusedVariables false
set_option maxRecDepth 20000
namespace Go.Zev.Ob
open Go Go.Zev Go.Proofs
noncomputable def b446 : List Bool := [false, true, true, true, true, true, false, true, true]
noncomputable def p446 : AV := pOf (.fs 6 false [r1, r2, r3, r4, r5, r7, r8])
noncomputable def k446 : List Known := [rE p446 0 r1, rE p446 1 r2, rE p446 2 r3, rE p446 3 r4, rE p446 4 r5, rE p446 5 r7, rE p446 6 r8, aE p446 a7]
theorem w446 (x y z : Int) : Way x y z b446 := ⟨p446, k446, fun z => fb (by kernel_rfl) (by kernel_rfl) rfl, runs_ok (by kernel_rfl), by kernel_rfl⟩
noncomputable def b447 : List Bool := [true, true, true, true, true, true, false, true, true]
noncomputable def p447 : AV := pOf (.fs 6 false [r0, r1, r2, r3, r4, r5, r7, r8])
noncomputable def k447 : List Known := [rE p447 0 r0, rE p447 1 r1, rE p447 2 r2, rE p447 3 r3, rE p447 4 r4, rE p447 5 r5, rE p447 6 r7, rE p447 7 r8, aE p447 a8]
theorem w447 (x y z : Int) : Way x y z b447 := ⟨p447, k447, fun z => fb (by kernel_rfl) (by kernel_rfl) rfl, runs_ok (by kernel_rfl), by kernel_rfl⟩
noncomputable def b448 : List Bool := [false, false, false, false, false, false, true, true, true]
noncomputable def p448 : AV := pOf (.fs 6 false [r6, r7, r8])
noncomputable def k448 : List Known := [rE p448 0 r6, rE p448 1 r7, rE p448 2 r8, aE p448 a3]
theorem w448 (x y z : Int) : Way x y z b448 := ⟨p448, k448, fun z => fb (by kernel_rfl) (by kernel_rfl) rfl, runs_ok (by kernel_rfl), by kernel_rfl⟩
noncomputable def b449 : List Bool := [true, false, false, false, false, false, true, true, true]
noncomputable def p449 : AV := pOf (.fs 6 false [r0, r6, r7, r8])
noncomputable def k449 : List Known := [rE p449 0 r0, rE p449 1 r6, rE p449 2 r7, rE p449 3 r8, aE p449 a4]
theorem w449 (x y z : Int) : Way x y z b449 := ⟨p449, k449, fun z => fb (by kernel_rfl) (by kernel_rfl) rfl, runs_ok (by kernel_rfl), by kernel_rfl⟩
noncomputable def b450 : List Bool := [false, true, false, false, false, false, true, true, true]
noncomputable def p450 : AV := pOf (.fs 6 false [r1, r6, r7, r8])
noncomputable def k450 : List Known := [rE p450 0 r1, rE p450 1 r6, rE p450 2 r7, rE p450 3 r8, aE p450 a4]
theorem w450 (x y z : Int) : Way x y z b450 := ⟨p450, k450, fun z => fb (by kernel_rfl) (by kernel_rfl) rfl, runs_ok (by kernel_rfl), by kernel_rfl⟩
noncomputable def b451 : List Bool := [true, true, false, false, false, false, true, true, true]
noncomputable def p451 : AV := pOf (.fs 6 false [r0, r1, r6, r7, r8])
noncomputable def k451 : List Known := [rE p451 0 r0, rE p451 1 r1, rE p451 2 r6, rE p451 3 r7, rE p451 4 r8, aE p451 a5]
theorem w451 (x y z : Int) : Way x y z b451 := ⟨p451, k451, fun z => fb (by kernel_rfl) (by kernel_rfl) rfl, runs_ok (by kernel_rfl), by kernel_rfl⟩
noncomputable def b452 : List Bool := [false, false, true, false, false, false, true, true, true]
noncomputable def p452 : AV := pOf (.fs 6 false [r2, r6, r7, r8])
noncomputable def k452 : List Known := [rE p452 0 r2, rE p452 1 r6, rE p452 2 r7, rE p452 3 r8, aE p452 a4]
theorem w452 (x y z : Int) : Way x y z b452 := ⟨p452, k452, fun z => fb (by kernel_rfl) (by kernel_rfl) rfl, runs_ok (by kernel_rfl), by kernel_rfl⟩
noncomputable def b453 : List Bool := [true, false, true, false, false, false, true, true, true]
noncomputable def p453 : AV := pOf (.fs 6 false [r0, r2, r6, r7, r8])
noncomputable def k453 : List Known := [rE p453 0 r0, rE p453 1 r2, rE p453 2 r6, rE p453 3 r7, rE p453 4 r8, aE p453 a5]
theorem w453 (x y z : Int) : Way x y z b453 := ⟨p453, k453, fun z => fb (by kernel_rfl) (by kernel_rfl) rfl, runs_ok (by kernel_rfl), by kernel_rfl⟩
noncomputable def b454 : List Bool := [false, true, true, false, false, false, true, true, true]
noncomputable def p454 : AV := pOf (.fs 6 false [r1, r2, r6, r7, r8])
noncomputable def k454 : List Known := [rE p454 0 r1, rE p454 1 r2, rE p454 2 r6, rE p454 3 r7, rE p454 4 r8, aE p454 a5]
theorem w454 (x y z : Int) : Way x y z b454 := ⟨p454, k454, fun z => fb (by kernel_rfl) (by kernel_rfl) rfl, runs_ok (by kernel_rfl), by kernel_rfl⟩
noncomputable def b455 : List Bool := [true, true, true, false, false, false, true, true, true]
noncomputable def p455 : AV := pOf (.fs 6 false [r0, r1, r2, r6, r7, r8])
noncomputable def k455 : List Known := [rE p455 0 r0, rE p455 1 r1, rE p455 2 r2, rE p455 3 r6, rE p455 4 r7, rE p455 5 r8, aE p455 a6]
theorem w455 (x y z : Int) : Way x y z b455 := ⟨p455, k455, fun z => fb (by kernel_rfl) (by kernel_rfl) rfl, runs_ok (by kernel_rfl), by kernel_rfl⟩
noncomputable def b456 : List Bool := [false, false, false, true, false, false, true, true, true]
noncomputable def p456 : AV := pOf (.fs 6 false [r3, r6, r7, r8])
noncomputable def k456 : List Known := [rE p456 0 r3, rE p456 1 r6, rE p456 2 r7, rE p456 3 r8, aE p456 a4]
theorem w456 (x y z : Int) : Way x y z b456 := ⟨p456, k456, fun z => fb (by kernel_rfl) (by kernel_rfl) rfl, runs_ok (by kernel_rfl), by kernel_rfl⟩
noncomputable def b457 : List Bool := [true, false, false, true, false, false, true, true, true]
noncomputable def p457 : AV := pOf (.fs 6 false [r0, r3, r6, r7, r8])
noncomputable def k457 : List Known := [rE p457 0 r0, rE p457 1 r3, rE p457 2 r6, rE p457 3 r7, rE p457 4 r8, aE p457 a5]
theorem w457 (x y z : Int) : Way x y z b457 := ⟨p457, k457, fun z => fb (by kernel_rfl) (by kernel_rfl) rfl, runs_ok (by kernel_rfl), by kernel_rfl⟩
end Go.Zev.Ob
