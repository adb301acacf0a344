/-
  Printed by ob.py: choices of heads; what is known of each; its ways.
-/
import Derived.Test.YtakhchbeofknaaaGF
set_option linter.unusedVariables false
set_option maxRecDepth 20000
namespace Go.Zev.Ob
open Go Go.Zev Go.Proofs
noncomputable def b249 : List Bool := [true, false, false, true, true, true, true, true, false]
noncomputable def p249 : AV := pOf (.fs 6 false [r0, r3, r4, r5, r6, r7])
noncomputable def k249 : List Known := [rE p249 0 r0, rE p249 1 r3, rE p249 2 r4, rE p249 3 r5, rE p249 4 r6, rE p249 5 r7, aE p249 a6]
theorem w249 (x y z : Int) : Way x y z b249 := ⟨p249, k249, fun z => fb (by kernel_rfl) (by kernel_rfl) rfl, runs_ok (by kernel_rfl), by kernel_rfl⟩
noncomputable def b250 : List Bool := [false, true, false, true, true, true, true, true, false]
noncomputable def p250 : AV := pOf (.fs 6 false [r1, r3, r4, r5, r6, r7])
noncomputable def k250 : List Known := [rE p250 0 r1, rE p250 1 r3, rE p250 2 r4, rE p250 3 r5, rE p250 4 r6, rE p250 5 r7, aE p250 a6]
theorem w250 (x y z : Int) : Way x y z b250 := ⟨p250, k250, fun z => fb (by kernel_rfl) (by kernel_rfl) rfl, runs_ok (by kernel_rfl), by kernel_rfl⟩
noncomputable def b251 : List Bool := [true, true, false, true, true, true, true, true, false]
noncomputable def p251 : AV := pOf (.fs 6 false [r0, r1, r3, r4, r5, r6, r7])
noncomputable def k251 : List Known := [rE p251 0 r0, rE p251 1 r1, rE p251 2 r3, rE p251 3 r4, rE p251 4 r5, rE p251 5 r6, rE p251 6 r7, aE p251 a7]
theorem w251 (x y z : Int) : Way x y z b251 := ⟨p251, k251, fun z => fb (by kernel_rfl) (by kernel_rfl) rfl, runs_ok (by kernel_rfl), by kernel_rfl⟩
noncomputable def b252 : List Bool := [false, false, true, true, true, true, true, true, false]
noncomputable def p252 : AV := pOf (.fs 6 false [r2, r3, r4, r5, r6, r7])
noncomputable def k252 : List Known := [rE p252 0 r2, rE p252 1 r3, rE p252 2 r4, rE p252 3 r5, rE p252 4 r6, rE p252 5 r7, aE p252 a6]
theorem w252 (x y z : Int) : Way x y z b252 := ⟨p252, k252, fun z => fb (by kernel_rfl) (by kernel_rfl) rfl, runs_ok (by kernel_rfl), by kernel_rfl⟩
noncomputable def b253 : List Bool := [true, false, true, true, true, true, true, true, false]
noncomputable def p253 : AV := pOf (.fs 6 false [r0, r2, r3, r4, r5, r6, r7])
noncomputable def k253 : List Known := [rE p253 0 r0, rE p253 1 r2, rE p253 2 r3, rE p253 3 r4, rE p253 4 r5, rE p253 5 r6, rE p253 6 r7, aE p253 a7]
theorem w253 (x y z : Int) : Way x y z b253 := ⟨p253, k253, fun z => fb (by kernel_rfl) (by kernel_rfl) rfl, runs_ok (by kernel_rfl), by kernel_rfl⟩
noncomputable def b254 : List Bool := [false, true, true, true, true, true, true, true, false]
noncomputable def p254 : AV := pOf (.fs 6 false [r1, r2, r3, r4, r5, r6, r7])
noncomputable def k254 : List Known := [rE p254 0 r1, rE p254 1 r2, rE p254 2 r3, rE p254 3 r4, rE p254 4 r5, rE p254 5 r6, rE p254 6 r7, aE p254 a7]
theorem w254 (x y z : Int) : Way x y z b254 := ⟨p254, k254, fun z => fb (by kernel_rfl) (by kernel_rfl) rfl, runs_ok (by kernel_rfl), by kernel_rfl⟩
noncomputable def b255 : List Bool := [true, true, true, true, true, true, true, true, false]
noncomputable def p255 : AV := pOf (.fs 6 false [r0, r1, r2, r3, r4, r5, r6, r7])
noncomputable def k255 : List Known := [rE p255 0 r0, rE p255 1 r1, rE p255 2 r2, rE p255 3 r3, rE p255 4 r4, rE p255 5 r5, rE p255 6 r6, rE p255 7 r7, aE p255 a8]
theorem w255 (x y z : Int) : Way x y z b255 := ⟨p255, k255, fun z => fb (by kernel_rfl) (by kernel_rfl) rfl, runs_ok (by kernel_rfl), by kernel_rfl⟩
noncomputable def b256 : List Bool := [false, false, false, false, false, false, false, false, true]
noncomputable def p256 : AV := pOf (.fs 6 false [r8])
noncomputable def k256 : List Known := [rE p256 0 r8, aE p256 a1]
theorem w256 (x y z : Int) : Way x y z b256 := ⟨p256, k256, fun z => fb (by kernel_rfl) (by kernel_rfl) rfl, runs_ok (by kernel_rfl), by kernel_rfl⟩
end Go.Zev.Ob
