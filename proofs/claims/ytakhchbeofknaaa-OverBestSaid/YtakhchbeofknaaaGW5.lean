/-
  Printed by ob.py: choices of heads; what is known of each; its ways.
-/
import Derived.Test.YtakhchbeofknaaaGF
set_option linter.unusedVariables false
set_option maxRecDepth 20000
namespace Go.Zev.Ob
open Go Go.Zev Go.Proofs
noncomputable def b71 : List Bool := [true, true, true, false, false, false, true, false, false]
noncomputable def p71 : AV := pOf (.fs 6 false [r0, r1, r2, r6])
noncomputable def k71 : List Known := [rE p71 0 r0, rE p71 1 r1, rE p71 2 r2, rE p71 3 r6, aE p71 a4]
theorem w71 (x y z : Int) : Way x y z b71 := ⟨p71, k71, fun z => fb (by kernel_rfl) (by kernel_rfl) rfl, runs_ok (by kernel_rfl), by kernel_rfl⟩
noncomputable def b72 : List Bool := [false, false, false, true, false, false, true, false, false]
noncomputable def p72 : AV := pOf (.fs 6 false [r3, r6])
noncomputable def k72 : List Known := [rE p72 0 r3, rE p72 1 r6, aE p72 a2]
theorem w72 (x y z : Int) : Way x y z b72 := ⟨p72, k72, fun z => fb (by kernel_rfl) (by kernel_rfl) rfl, runs_ok (by kernel_rfl), by kernel_rfl⟩
noncomputable def b73 : List Bool := [true, false, false, true, false, false, true, false, false]
noncomputable def p73 : AV := pOf (.fs 6 false [r0, r3, r6])
noncomputable def k73 : List Known := [rE p73 0 r0, rE p73 1 r3, rE p73 2 r6, aE p73 a3]
theorem w73 (x y z : Int) : Way x y z b73 := ⟨p73, k73, fun z => fb (by kernel_rfl) (by kernel_rfl) rfl, runs_ok (by kernel_rfl), by kernel_rfl⟩
noncomputable def b74 : List Bool := [false, true, false, true, false, false, true, false, false]
noncomputable def p74 : AV := pOf (.fs 6 false [r1, r3, r6])
noncomputable def k74 : List Known := [rE p74 0 r1, rE p74 1 r3, rE p74 2 r6, aE p74 a3]
theorem w74 (x y z : Int) : Way x y z b74 := ⟨p74, k74, fun z => fb (by kernel_rfl) (by kernel_rfl) rfl, runs_ok (by kernel_rfl), by kernel_rfl⟩
noncomputable def b75 : List Bool := [true, true, false, true, false, false, true, false, false]
noncomputable def p75 : AV := pOf (.fs 6 false [r0, r1, r3, r6])
noncomputable def k75 : List Known := [rE p75 0 r0, rE p75 1 r1, rE p75 2 r3, rE p75 3 r6, aE p75 a4]
theorem w75 (x y z : Int) : Way x y z b75 := ⟨p75, k75, fun z => fb (by kernel_rfl) (by kernel_rfl) rfl, runs_ok (by kernel_rfl), by kernel_rfl⟩
noncomputable def b76 : List Bool := [false, false, true, true, false, false, true, false, false]
noncomputable def p76 : AV := pOf (.fs 6 false [r2, r3, r6])
noncomputable def k76 : List Known := [rE p76 0 r2, rE p76 1 r3, rE p76 2 r6, aE p76 a3]
theorem w76 (x y z : Int) : Way x y z b76 := ⟨p76, k76, fun z => fb (by kernel_rfl) (by kernel_rfl) rfl, runs_ok (by kernel_rfl), by kernel_rfl⟩
noncomputable def b77 : List Bool := [true, false, true, true, false, false, true, false, false]
noncomputable def p77 : AV := pOf (.fs 6 false [r0, r2, r3, r6])
noncomputable def k77 : List Known := [rE p77 0 r0, rE p77 1 r2, rE p77 2 r3, rE p77 3 r6, aE p77 a4]
theorem w77 (x y z : Int) : Way x y z b77 := ⟨p77, k77, fun z => fb (by kernel_rfl) (by kernel_rfl) rfl, runs_ok (by kernel_rfl), by kernel_rfl⟩
noncomputable def b78 : List Bool := [false, true, true, true, false, false, true, false, false]
noncomputable def p78 : AV := pOf (.fs 6 false [r1, r2, r3, r6])
noncomputable def k78 : List Known := [rE p78 0 r1, rE p78 1 r2, rE p78 2 r3, rE p78 3 r6, aE p78 a4]
theorem w78 (x y z : Int) : Way x y z b78 := ⟨p78, k78, fun z => fb (by kernel_rfl) (by kernel_rfl) rfl, runs_ok (by kernel_rfl), by kernel_rfl⟩
noncomputable def b79 : List Bool := [true, true, true, true, false, false, true, false, false]
noncomputable def p79 : AV := pOf (.fs 6 false [r0, r1, r2, r3, r6])
noncomputable def k79 : List Known := [rE p79 0 r0, rE p79 1 r1, rE p79 2 r2, rE p79 3 r3, rE p79 4 r6, aE p79 a5]
theorem w79 (x y z : Int) : Way x y z b79 := ⟨p79, k79, fun z => fb (by kernel_rfl) (by kernel_rfl) rfl, runs_ok (by kernel_rfl), by kernel_rfl⟩
noncomputable def b80 : List Bool := [false, false, false, false, true, false, true, false, false]
noncomputable def p80 : AV := pOf (.fs 6 false [r4, r6])
noncomputable def k80 : List Known := [rE p80 0 r4, rE p80 1 r6, aE p80 a2]
theorem w80 (x y z : Int) : Way x y z b80 := ⟨p80, k80, fun z => fb (by kernel_rfl) (by kernel_rfl) rfl, runs_ok (by kernel_rfl), by kernel_rfl⟩
noncomputable def b81 : List Bool := [true, false, false, false, true, false, true, false, false]
noncomputable def p81 : AV := pOf (.fs 6 false [r0, r4, r6])
noncomputable def k81 : List Known := [rE p81 0 r0, rE p81 1 r4, rE p81 2 r6, aE p81 a3]
theorem w81 (x y z : Int) : Way x y z b81 := ⟨p81, k81, fun z => fb (by kernel_rfl) (by kernel_rfl) rfl, runs_ok (by kernel_rfl), by kernel_rfl⟩
noncomputable def b82 : List Bool := [false, true, false, false, true, false, true, false, false]
noncomputable def p82 : AV := pOf (.fs 6 false [r1, r4, r6])
noncomputable def k82 : List Known := [rE p82 0 r1, rE p82 1 r4, rE p82 2 r6, aE p82 a3]
theorem w82 (x y z : Int) : Way x y z b82 := ⟨p82, k82, fun z => fb (by kernel_rfl) (by kernel_rfl) rfl, runs_ok (by kernel_rfl), by kernel_rfl⟩
noncomputable def b83 : List Bool := [true, true, false, false, true, false, true, false, false]
noncomputable def p83 : AV := pOf (.fs 6 false [r0, r1, r4, r6])
noncomputable def k83 : List Known := [rE p83 0 r0, rE p83 1 r1, rE p83 2 r4, rE p83 3 r6, aE p83 a4]
theorem w83 (x y z : Int) : Way x y z b83 := ⟨p83, k83, fun z => fb (by kernel_rfl) (by kernel_rfl) rfl, runs_ok (by kernel_rfl), by kernel_rfl⟩
noncomputable def b84 : List Bool := [false, false, true, false, true, false, true, false, false]
noncomputable def p84 : AV := pOf (.fs 6 false [r2, r4, r6])
noncomputable def k84 : List Known := [rE p84 0 r2, rE p84 1 r4, rE p84 2 r6, aE p84 a3]
theorem w84 (x y z : Int) : Way x y z b84 := ⟨p84, k84, fun z => fb (by kernel_rfl) (by kernel_rfl) rfl, runs_ok (by kernel_rfl), by kernel_rfl⟩
noncomputable def b85 : List Bool := [true, false, true, false, true, false, true, false, false]
noncomputable def p85 : AV := pOf (.fs 6 false [r0, r2, r4, r6])
noncomputable def k85 : List Known := [rE p85 0 r0, rE p85 1 r2, rE p85 2 r4, rE p85 3 r6, aE p85 a4]
theorem w85 (x y z : Int) : Way x y z b85 := ⟨p85, k85, fun z => fb (by kernel_rfl) (by kernel_rfl) rfl, runs_ok (by kernel_rfl), by kernel_rfl⟩
noncomputable def b86 : List Bool := [false, true, true, false, true, false, true, false, false]
noncomputable def p86 : AV := pOf (.fs 6 false [r1, r2, r4, r6])
noncomputable def k86 : List Known := [rE p86 0 r1, rE p86 1 r2, rE p86 2 r4, rE p86 3 r6, aE p86 a4]
theorem w86 (x y z : Int) : Way x y z b86 := ⟨p86, k86, fun z => fb (by kernel_rfl) (by kernel_rfl) rfl, runs_ok (by kernel_rfl), by kernel_rfl⟩
end Go.Zev.Ob
