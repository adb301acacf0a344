/-
  Printed by ob.py: choices of heads; what is known of each; its ways.
-/
import Derived.Test.YtakhchbeofknaaaGF
set_option linter.unusedVariables false
set_option maxRecDepth 20000
namespace Go.Zev.Ob
open Go Go.Zev Go.Proofs
noncomputable def b495 : List Bool := [true, true, true, true, false, true, true, true, true]
noncomputable def p495 : AV := pOf (.fs 6 false [r0, r1, r2, r3, r5, r6, r7, r8])
noncomputable def k495 : List Known := [rE p495 0 r0, rE p495 1 r1, rE p495 2 r2, rE p495 3 r3, rE p495 4 r5, rE p495 5 r6, rE p495 6 r7, rE p495 7 r8, aE p495 a8]
theorem w495 (x y z : Int) : Way x y z b495 := ⟨p495, k495, fun z => fb (by kernel_rfl) (by kernel_rfl) rfl, runs_ok (by kernel_rfl), by kernel_rfl⟩
noncomputable def b496 : List Bool := [false, false, false, false, true, true, true, true, true]
noncomputable def p496 : AV := pOf (.fs 6 false [r4, r5, r6, r7, r8])
noncomputable def k496 : List Known := [rE p496 0 r4, rE p496 1 r5, rE p496 2 r6, rE p496 3 r7, rE p496 4 r8, aE p496 a5]
theorem w496 (x y z : Int) : Way x y z b496 := ⟨p496, k496, fun z => fb (by kernel_rfl) (by kernel_rfl) rfl, runs_ok (by kernel_rfl), by kernel_rfl⟩
noncomputable def b497 : List Bool := [true, false, false, false, true, true, true, true, true]
noncomputable def p497 : AV := pOf (.fs 6 false [r0, r4, r5, r6, r7, r8])
noncomputable def k497 : List Known := [rE p497 0 r0, rE p497 1 r4, rE p497 2 r5, rE p497 3 r6, rE p497 4 r7, rE p497 5 r8, aE p497 a6]
theorem w497 (x y z : Int) : Way x y z b497 := ⟨p497, k497, fun z => fb (by kernel_rfl) (by kernel_rfl) rfl, runs_ok (by kernel_rfl), by kernel_rfl⟩
noncomputable def b498 : List Bool := [false, true, false, false, true, true, true, true, true]
noncomputable def p498 : AV := pOf (.fs 6 false [r1, r4, r5, r6, r7, r8])
noncomputable def k498 : List Known := [rE p498 0 r1, rE p498 1 r4, rE p498 2 r5, rE p498 3 r6, rE p498 4 r7, rE p498 5 r8, aE p498 a6]
theorem w498 (x y z : Int) : Way x y z b498 := ⟨p498, k498, fun z => fb (by kernel_rfl) (by kernel_rfl) rfl, runs_ok (by kernel_rfl), by kernel_rfl⟩
noncomputable def b499 : List Bool := [true, true, false, false, true, true, true, true, true]
noncomputable def p499 : AV := pOf (.fs 6 false [r0, r1, r4, r5, r6, r7, r8])
noncomputable def k499 : List Known := [rE p499 0 r0, rE p499 1 r1, rE p499 2 r4, rE p499 3 r5, rE p499 4 r6, rE p499 5 r7, rE p499 6 r8, aE p499 a7]
theorem w499 (x y z : Int) : Way x y z b499 := ⟨p499, k499, fun z => fb (by kernel_rfl) (by kernel_rfl) rfl, runs_ok (by kernel_rfl), by kernel_rfl⟩
noncomputable def b500 : List Bool := [false, false, true, false, true, true, true, true, true]
noncomputable def p500 : AV := pOf (.fs 6 false [r2, r4, r5, r6, r7, r8])
noncomputable def k500 : List Known := [rE p500 0 r2, rE p500 1 r4, rE p500 2 r5, rE p500 3 r6, rE p500 4 r7, rE p500 5 r8, aE p500 a6]
theorem w500 (x y z : Int) : Way x y z b500 := ⟨p500, k500, fun z => fb (by kernel_rfl) (by kernel_rfl) rfl, runs_ok (by kernel_rfl), by kernel_rfl⟩
noncomputable def b501 : List Bool := [true, false, true, false, true, true, true, true, true]
noncomputable def p501 : AV := pOf (.fs 6 false [r0, r2, r4, r5, r6, r7, r8])
noncomputable def k501 : List Known := [rE p501 0 r0, rE p501 1 r2, rE p501 2 r4, rE p501 3 r5, rE p501 4 r6, rE p501 5 r7, rE p501 6 r8, aE p501 a7]
theorem w501 (x y z : Int) : Way x y z b501 := ⟨p501, k501, fun z => fb (by kernel_rfl) (by kernel_rfl) rfl, runs_ok (by kernel_rfl), by kernel_rfl⟩
noncomputable def b502 : List Bool := [false, true, true, false, true, true, true, true, true]
noncomputable def p502 : AV := pOf (.fs 6 false [r1, r2, r4, r5, r6, r7, r8])
noncomputable def k502 : List Known := [rE p502 0 r1, rE p502 1 r2, rE p502 2 r4, rE p502 3 r5, rE p502 4 r6, rE p502 5 r7, rE p502 6 r8, aE p502 a7]
theorem w502 (x y z : Int) : Way x y z b502 := ⟨p502, k502, fun z => fb (by kernel_rfl) (by kernel_rfl) rfl, runs_ok (by kernel_rfl), by kernel_rfl⟩
end Go.Zev.Ob
