/-
  Printed by ob.py: choices of heads; what is known of each; its ways.
-/
import Derived.Test.YtakhchbeofknaaaGF
set_option linter.unusedVariables false
set_option maxRecDepth 20000
namespace Go.Zev.Ob
open Go Go.Zev Go.Proofs
noncomputable def b509 : List Bool := [true, false, true, true, true, true, true, true, true]
noncomputable def p509 : AV := pOf (.fs 6 false [r0, r2, r3, r4, r5, r6, r7, r8])
noncomputable def k509 : List Known := [rE p509 0 r0, rE p509 1 r2, rE p509 2 r3, rE p509 3 r4, rE p509 4 r5, rE p509 5 r6, rE p509 6 r7, rE p509 7 r8, aE p509 a8]
theorem w509 (x y z : Int) : Way x y z b509 := ⟨p509, k509, fun z => fb (by kernel_rfl) (by kernel_rfl) rfl, runs_ok (by kernel_rfl), by kernel_rfl⟩
noncomputable def b510 : List Bool := [false, true, true, true, true, true, true, true, true]
noncomputable def p510 : AV := pOf (.fs 6 false [r1, r2, r3, r4, r5, r6, r7, r8])
noncomputable def k510 : List Known := [rE p510 0 r1, rE p510 1 r2, rE p510 2 r3, rE p510 3 r4, rE p510 4 r5, rE p510 5 r6, rE p510 6 r7, rE p510 7 r8, aE p510 a8]
theorem w510 (x y z : Int) : Way x y z b510 := ⟨p510, k510, fun z => fb (by kernel_rfl) (by kernel_rfl) rfl, runs_ok (by kernel_rfl), by kernel_rfl⟩
noncomputable def b511 : List Bool := [true, true, true, true, true, true, true, true, true]
noncomputable def p511 : AV := pOf (.fs 6 false [r0, r1, r2, r3, r4, r5, r6, r7, r8])
noncomputable def k511 : List Known := [rE p511 0 r0, rE p511 1 r1, rE p511 2 r2, rE p511 3 r3, rE p511 4 r4, rE p511 5 r5, rE p511 6 r6, rE p511 7 r7, rE p511 8 r8, aE p511 a9]
theorem w511 (x y z : Int) : Way x y z b511 := ⟨p511, k511, fun z => fb (by kernel_rfl) (by kernel_rfl) rfl, runs_ok (by kernel_rfl), by kernel_rfl⟩
end Go.Zev.Ob
