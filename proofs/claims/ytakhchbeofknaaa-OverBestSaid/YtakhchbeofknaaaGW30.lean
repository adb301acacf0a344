/-
  Printed by ob.py: choices of heads; what is known of each; its ways.
-/
import Derived.Test.YtakhchbeofknaaaGF
set_option linter.unusedVariables false
set_option maxRecDepth 20000
namespace Go.Zev.Ob
open Go Go.Zev Go.Proofs
noncomputable def b426 : List Bool := [false, true, false, true, false, true, false, true, true]
noncomputable def p426 : AV := pOf (.fs 6 false [r1, r3, r5, r7, r8])
noncomputable def k426 : List Known := [rE p426 0 r1, rE p426 1 r3, rE p426 2 r5, rE p426 3 r7, rE p426 4 r8, aE p426 a5]
theorem w426 (x y z : Int) : Way x y z b426 := ⟨p426, k426, fun z => fb (by kernel_rfl) (by kernel_rfl) rfl, runs_ok (by kernel_rfl), by kernel_rfl⟩
noncomputable def b427 : List Bool := [true, true, false, true, false, true, false, true, true]
noncomputable def p427 : AV := pOf (.fs 6 false [r0, r1, r3, r5, r7, r8])
noncomputable def k427 : List Known := [rE p427 0 r0, rE p427 1 r1, rE p427 2 r3, rE p427 3 r5, rE p427 4 r7, rE p427 5 r8, aE p427 a6]
theorem w427 (x y z : Int) : Way x y z b427 := ⟨p427, k427, fun z => fb (by kernel_rfl) (by kernel_rfl) rfl, runs_ok (by kernel_rfl), by kernel_rfl⟩
noncomputable def b428 : List Bool := [false, false, true, true, false, true, false, true, true]
noncomputable def p428 : AV := pOf (.fs 6 false [r2, r3, r5, r7, r8])
noncomputable def k428 : List Known := [rE p428 0 r2, rE p428 1 r3, rE p428 2 r5, rE p428 3 r7, rE p428 4 r8, aE p428 a5]
theorem w428 (x y z : Int) : Way x y z b428 := ⟨p428, k428, fun z => fb (by kernel_rfl) (by kernel_rfl) rfl, runs_ok (by kernel_rfl), by kernel_rfl⟩
noncomputable def b429 : List Bool := [true, false, true, true, false, true, false, true, true]
noncomputable def p429 : AV := pOf (.fs 6 false [r0, r2, r3, r5, r7, r8])
noncomputable def k429 : List Known := [rE p429 0 r0, rE p429 1 r2, rE p429 2 r3, rE p429 3 r5, rE p429 4 r7, rE p429 5 r8, aE p429 a6]
theorem w429 (x y z : Int) : Way x y z b429 := ⟨p429, k429, fun z => fb (by kernel_rfl) (by kernel_rfl) rfl, runs_ok (by kernel_rfl), by kernel_rfl⟩
noncomputable def b430 : List Bool := [false, true, true, true, false, true, false, true, true]
noncomputable def p430 : AV := pOf (.fs 6 false [r1, r2, r3, r5, r7, r8])
noncomputable def k430 : List Known := [rE p430 0 r1, rE p430 1 r2, rE p430 2 r3, rE p430 3 r5, rE p430 4 r7, rE p430 5 r8, aE p430 a6]
theorem w430 (x y z : Int) : Way x y z b430 := ⟨p430, k430, fun z => fb (by kernel_rfl) (by kernel_rfl) rfl, runs_ok (by kernel_rfl), by kernel_rfl⟩
noncomputable def b431 : List Bool := [true, true, true, true, false, true, false, true, true]
noncomputable def p431 : AV := pOf (.fs 6 false [r0, r1, r2, r3, r5, r7, r8])
noncomputable def k431 : List Known := [rE p431 0 r0, rE p431 1 r1, rE p431 2 r2, rE p431 3 r3, rE p431 4 r5, rE p431 5 r7, rE p431 6 r8, aE p431 a7]
theorem w431 (x y z : Int) : Way x y z b431 := ⟨p431, k431, fun z => fb (by kernel_rfl) (by kernel_rfl) rfl, runs_ok (by kernel_rfl), by kernel_rfl⟩
noncomputable def b432 : List Bool := [false, false, false, false, true, true, false, true, true]
noncomputable def p432 : AV := pOf (.fs 6 false [r4, r5, r7, r8])
noncomputable def k432 : List Known := [rE p432 0 r4, rE p432 1 r5, rE p432 2 r7, rE p432 3 r8, aE p432 a4]
theorem w432 (x y z : Int) : Way x y z b432 := ⟨p432, k432, fun z => fb (by kernel_rfl) (by kernel_rfl) rfl, runs_ok (by kernel_rfl), by kernel_rfl⟩
noncomputable def b433 : List Bool := [true, false, false, false, true, true, false, true, true]
noncomputable def p433 : AV := pOf (.fs 6 false [r0, r4, r5, r7, r8])
noncomputable def k433 : List Known := [rE p433 0 r0, rE p433 1 r4, rE p433 2 r5, rE p433 3 r7, rE p433 4 r8, aE p433 a5]
theorem w433 (x y z : Int) : Way x y z b433 := ⟨p433, k433, fun z => fb (by kernel_rfl) (by kernel_rfl) rfl, runs_ok (by kernel_rfl), by kernel_rfl⟩
noncomputable def b434 : List Bool := [false, true, false, false, true, true, false, true, true]
noncomputable def p434 : AV := pOf (.fs 6 false [r1, r4, r5, r7, r8])
noncomputable def k434 : List Known := [rE p434 0 r1, rE p434 1 r4, rE p434 2 r5, rE p434 3 r7, rE p434 4 r8, aE p434 a5]
theorem w434 (x y z : Int) : Way x y z b434 := ⟨p434, k434, fun z => fb (by kernel_rfl) (by kernel_rfl) rfl, runs_ok (by kernel_rfl), by kernel_rfl⟩
noncomputable def b435 : List Bool := [true, true, false, false, true, true, false, true, true]
noncomputable def p435 : AV := pOf (.fs 6 false [r0, r1, r4, r5, r7, r8])
noncomputable def k435 : List Known := [rE p435 0 r0, rE p435 1 r1, rE p435 2 r4, rE p435 3 r5, rE p435 4 r7, rE p435 5 r8, aE p435 a6]
theorem w435 (x y z : Int) : Way x y z b435 := ⟨p435, k435, fun z => fb (by kernel_rfl) (by kernel_rfl) rfl, runs_ok (by kernel_rfl), by kernel_rfl⟩
noncomputable def b436 : List Bool := [false, false, true, false, true, true, false, true, true]
noncomputable def p436 : AV := pOf (.fs 6 false [r2, r4, r5, r7, r8])
noncomputable def k436 : List Known := [rE p436 0 r2, rE p436 1 r4, rE p436 2 r5, rE p436 3 r7, rE p436 4 r8, aE p436 a5]
theorem w436 (x y z : Int) : Way x y z b436 := ⟨p436, k436, fun z => fb (by kernel_rfl) (by kernel_rfl) rfl, runs_ok (by kernel_rfl), by kernel_rfl⟩
noncomputable def b437 : List Bool := [true, false, true, false, true, true, false, true, true]
noncomputable def p437 : AV := pOf (.fs 6 false [r0, r2, r4, r5, r7, r8])
noncomputable def k437 : List Known := [rE p437 0 r0, rE p437 1 r2, rE p437 2 r4, rE p437 3 r5, rE p437 4 r7, rE p437 5 r8, aE p437 a6]
theorem w437 (x y z : Int) : Way x y z b437 := ⟨p437, k437, fun z => fb (by kernel_rfl) (by kernel_rfl) rfl, runs_ok (by kernel_rfl), by kernel_rfl⟩
end Go.Zev.Ob
