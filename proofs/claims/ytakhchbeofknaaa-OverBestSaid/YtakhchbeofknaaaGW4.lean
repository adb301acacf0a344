/-
  Printed by ob.py: choices of heads; what is known of each; its ways.
-/
import Derived.Test.YtakhchbeofknaaaGF
set_option linter.unusedVariables false
set_option maxRecDepth 20000
namespace Go.Zev.Ob
open Go Go.Zev Go.Proofs
noncomputable def b59 : List Bool := [true, true, false, true, true, true, false, false, false]
noncomputable def p59 : AV := pOf (.fs 6 false [r0, r1, r3, r4, r5])
noncomputable def k59 : List Known := [rE p59 0 r0, rE p59 1 r1, rE p59 2 r3, rE p59 3 r4, rE p59 4 r5, aE p59 a5]
theorem w59 (x y z : Int) : Way x y z b59 := ⟨p59, k59, fun z => fb (by kernel_rfl) (by kernel_rfl) rfl, runs_ok (by kernel_rfl), by kernel_rfl⟩
noncomputable def b60 : List Bool := [false, false, true, true, true, true, false, false, false]
noncomputable def p60 : AV := pOf (.fs 6 false [r2, r3, r4, r5])
noncomputable def k60 : List Known := [rE p60 0 r2, rE p60 1 r3, rE p60 2 r4, rE p60 3 r5, aE p60 a4]
theorem w60 (x y z : Int) : Way x y z b60 := ⟨p60, k60, fun z => fb (by kernel_rfl) (by kernel_rfl) rfl, runs_ok (by kernel_rfl), by kernel_rfl⟩
noncomputable def b61 : List Bool := [true, false, true, true, true, true, false, false, false]
noncomputable def p61 : AV := pOf (.fs 6 false [r0, r2, r3, r4, r5])
noncomputable def k61 : List Known := [rE p61 0 r0, rE p61 1 r2, rE p61 2 r3, rE p61 3 r4, rE p61 4 r5, aE p61 a5]
theorem w61 (x y z : Int) : Way x y z b61 := ⟨p61, k61, fun z => fb (by kernel_rfl) (by kernel_rfl) rfl, runs_ok (by kernel_rfl), by kernel_rfl⟩
noncomputable def b62 : List Bool := [false, true, true, true, true, true, false, false, false]
noncomputable def p62 : AV := pOf (.fs 6 false [r1, r2, r3, r4, r5])
noncomputable def k62 : List Known := [rE p62 0 r1, rE p62 1 r2, rE p62 2 r3, rE p62 3 r4, rE p62 4 r5, aE p62 a5]
theorem w62 (x y z : Int) : Way x y z b62 := ⟨p62, k62, fun z => fb (by kernel_rfl) (by kernel_rfl) rfl, runs_ok (by kernel_rfl), by kernel_rfl⟩
noncomputable def b63 : List Bool := [true, true, true, true, true, true, false, false, false]
noncomputable def p63 : AV := pOf (.fs 6 false [r0, r1, r2, r3, r4, r5])
noncomputable def k63 : List Known := [rE p63 0 r0, rE p63 1 r1, rE p63 2 r2, rE p63 3 r3, rE p63 4 r4, rE p63 5 r5, aE p63 a6]
theorem w63 (x y z : Int) : Way x y z b63 := ⟨p63, k63, fun z => fb (by kernel_rfl) (by kernel_rfl) rfl, runs_ok (by kernel_rfl), by kernel_rfl⟩
noncomputable def b64 : List Bool := [false, false, false, false, false, false, true, false, false]
noncomputable def p64 : AV := pOf (.fs 6 false [r6])
noncomputable def k64 : List Known := [rE p64 0 r6, aE p64 a1]
theorem w64 (x y z : Int) : Way x y z b64 := ⟨p64, k64, fun z => fb (by kernel_rfl) (by kernel_rfl) rfl, runs_ok (by kernel_rfl), by kernel_rfl⟩
noncomputable def b65 : List Bool := [true, false, false, false, false, false, true, false, false]
noncomputable def p65 : AV := pOf (.fs 6 false [r0, r6])
noncomputable def k65 : List Known := [rE p65 0 r0, rE p65 1 r6, aE p65 a2]
theorem w65 (x y z : Int) : Way x y z b65 := ⟨p65, k65, fun z => fb (by kernel_rfl) (by kernel_rfl) rfl, runs_ok (by kernel_rfl), by kernel_rfl⟩
noncomputable def b66 : List Bool := [false, true, false, false, false, false, true, false, false]
noncomputable def p66 : AV := pOf (.fs 6 false [r1, r6])
noncomputable def k66 : List Known := [rE p66 0 r1, rE p66 1 r6, aE p66 a2]
theorem w66 (x y z : Int) : Way x y z b66 := ⟨p66, k66, fun z => fb (by kernel_rfl) (by kernel_rfl) rfl, runs_ok (by kernel_rfl), by kernel_rfl⟩
noncomputable def b67 : List Bool := [true, true, false, false, false, false, true, false, false]
noncomputable def p67 : AV := pOf (.fs 6 false [r0, r1, r6])
noncomputable def k67 : List Known := [rE p67 0 r0, rE p67 1 r1, rE p67 2 r6, aE p67 a3]
theorem w67 (x y z : Int) : Way x y z b67 := ⟨p67, k67, fun z => fb (by kernel_rfl) (by kernel_rfl) rfl, runs_ok (by kernel_rfl), by kernel_rfl⟩
noncomputable def b68 : List Bool := [false, false, true, false, false, false, true, false, false]
noncomputable def p68 : AV := pOf (.fs 6 false [r2, r6])
noncomputable def k68 : List Known := [rE p68 0 r2, rE p68 1 r6, aE p68 a2]
theorem w68 (x y z : Int) : Way x y z b68 := ⟨p68, k68, fun z => fb (by kernel_rfl) (by kernel_rfl) rfl, runs_ok (by kernel_rfl), by kernel_rfl⟩
noncomputable def b69 : List Bool := [true, false, true, false, false, false, true, false, false]
noncomputable def p69 : AV := pOf (.fs 6 false [r0, r2, r6])
noncomputable def k69 : List Known := [rE p69 0 r0, rE p69 1 r2, rE p69 2 r6, aE p69 a3]
theorem w69 (x y z : Int) : Way x y z b69 := ⟨p69, k69, fun z => fb (by kernel_rfl) (by kernel_rfl) rfl, runs_ok (by kernel_rfl), by kernel_rfl⟩
noncomputable def b70 : List Bool := [false, true, true, false, false, false, true, false, false]
noncomputable def p70 : AV := pOf (.fs 6 false [r1, r2, r6])
noncomputable def k70 : List Known := [rE p70 0 r1, rE p70 1 r2, rE p70 2 r6, aE p70 a3]
theorem w70 (x y z : Int) : Way x y z b70 := ⟨p70, k70, fun z => fb (by kernel_rfl) (by kernel_rfl) rfl, runs_ok (by kernel_rfl), by kernel_rfl⟩
end Go.Zev.Ob
