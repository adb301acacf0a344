/-
  Printed by ob.py: choices of heads; what is known of each; its ways.
-/
import Derived.Test.YtakhchbeofknaaaGF
set_option linter.unusedVariables false
set_option maxRecDepth 20000
namespace Go.Zev.Ob
open Go Go.Zev Go.Proofs
noncomputable def b375 : List Bool := [true, true, true, false, true, true, true, false, true]
noncomputable def p375 : AV := pOf (.fs 6 false [r0, r1, r2, r4, r5, r6, r8])
noncomputable def k375 : List Known := [rE p375 0 r0, rE p375 1 r1, rE p375 2 r2, rE p375 3 r4, rE p375 4 r5, rE p375 5 r6, rE p375 6 r8, aE p375 a7]
theorem w375 (x y z : Int) : Way x y z b375 := ⟨p375, k375, fun z => fb (by kernel_rfl) (by kernel_rfl) rfl, runs_ok (by kernel_rfl), by kernel_rfl⟩
noncomputable def b376 : List Bool := [false, false, false, true, true, true, true, false, true]
noncomputable def p376 : AV := pOf (.fs 6 false [r3, r4, r5, r6, r8])
noncomputable def k376 : List Known := [rE p376 0 r3, rE p376 1 r4, rE p376 2 r5, rE p376 3 r6, rE p376 4 r8, aE p376 a5]
theorem w376 (x y z : Int) : Way x y z b376 := ⟨p376, k376, fun z => fb (by kernel_rfl) (by kernel_rfl) rfl, runs_ok (by kernel_rfl), by kernel_rfl⟩
noncomputable def b377 : List Bool := [true, false, false, true, true, true, true, false, true]
noncomputable def p377 : AV := pOf (.fs 6 false [r0, r3, r4, r5, r6, r8])
noncomputable def k377 : List Known := [rE p377 0 r0, rE p377 1 r3, rE p377 2 r4, rE p377 3 r5, rE p377 4 r6, rE p377 5 r8, aE p377 a6]
theorem w377 (x y z : Int) : Way x y z b377 := ⟨p377, k377, fun z => fb (by kernel_rfl) (by kernel_rfl) rfl, runs_ok (by kernel_rfl), by kernel_rfl⟩
noncomputable def b378 : List Bool := [false, true, false, true, true, true, true, false, true]
noncomputable def p378 : AV := pOf (.fs 6 false [r1, r3, r4, r5, r6, r8])
noncomputable def k378 : List Known := [rE p378 0 r1, rE p378 1 r3, rE p378 2 r4, rE p378 3 r5, rE p378 4 r6, rE p378 5 r8, aE p378 a6]
theorem w378 (x y z : Int) : Way x y z b378 := ⟨p378, k378, fun z => fb (by kernel_rfl) (by kernel_rfl) rfl, runs_ok (by kernel_rfl), by kernel_rfl⟩
noncomputable def b379 : List Bool := [true, true, false, true, true, true, true, false, true]
noncomputable def p379 : AV := pOf (.fs 6 false [r0, r1, r3, r4, r5, r6, r8])
noncomputable def k379 : List Known := [rE p379 0 r0, rE p379 1 r1, rE p379 2 r3, rE p379 3 r4, rE p379 4 r5, rE p379 5 r6, rE p379 6 r8, aE p379 a7]
theorem w379 (x y z : Int) : Way x y z b379 := ⟨p379, k379, fun z => fb (by kernel_rfl) (by kernel_rfl) rfl, runs_ok (by kernel_rfl), by kernel_rfl⟩
noncomputable def b380 : List Bool := [false, false, true, true, true, true, true, false, true]
noncomputable def p380 : AV := pOf (.fs 6 false [r2, r3, r4, r5, r6, r8])
noncomputable def k380 : List Known := [rE p380 0 r2, rE p380 1 r3, rE p380 2 r4, rE p380 3 r5, rE p380 4 r6, rE p380 5 r8, aE p380 a6]
theorem w380 (x y z : Int) : Way x y z b380 := ⟨p380, k380, fun z => fb (by kernel_rfl) (by kernel_rfl) rfl, runs_ok (by kernel_rfl), by kernel_rfl⟩
noncomputable def b381 : List Bool := [true, false, true, true, true, true, true, false, true]
noncomputable def p381 : AV := pOf (.fs 6 false [r0, r2, r3, r4, r5, r6, r8])
noncomputable def k381 : List Known := [rE p381 0 r0, rE p381 1 r2, rE p381 2 r3, rE p381 3 r4, rE p381 4 r5, rE p381 5 r6, rE p381 6 r8, aE p381 a7]
theorem w381 (x y z : Int) : Way x y z b381 := ⟨p381, k381, fun z => fb (by kernel_rfl) (by kernel_rfl) rfl, runs_ok (by kernel_rfl), by kernel_rfl⟩
noncomputable def b382 : List Bool := [false, true, true, true, true, true, true, false, true]
noncomputable def p382 : AV := pOf (.fs 6 false [r1, r2, r3, r4, r5, r6, r8])
noncomputable def k382 : List Known := [rE p382 0 r1, rE p382 1 r2, rE p382 2 r3, rE p382 3 r4, rE p382 4 r5, rE p382 5 r6, rE p382 6 r8, aE p382 a7]
theorem w382 (x y z : Int) : Way x y z b382 := ⟨p382, k382, fun z => fb (by kernel_rfl) (by kernel_rfl) rfl, runs_ok (by kernel_rfl), by kernel_rfl⟩
end Go.Zev.Ob
