/-
  Printed by ob.py: choices of heads; what is known of each; its ways.
-/
import Derived.Test.YtakhchbeofknaaaGF
set_option linter.unusedVariables false
set_option maxRecDepth 20000
namespace Go.Zev.Ob
open Go Go.Zev Go.Proofs
noncomputable def bq47 : List Bool := [true, true, true, true, false, true, false, false, false]
noncomputable def p47 : AV := pOf (.fs 6 false [r0, r1, r2, r3, r5])
noncomputable def k47 : List Known := [rE p47 0 r0, rE p47 1 r1, rE p47 2 r2, rE p47 3 r3, rE p47 4 r5, aE p47 a5]
theorem w47 (x y z : Int) : Way x y z bq47 := ⟨p47, k47, fun z => fb (by kernel_rfl) (by kernel_rfl) rfl, runs_ok (by kernel_rfl), by kernel_rfl⟩
noncomputable def bq48 : List Bool := [false, false, false, false, true, true, false, false, false]
noncomputable def p48 : AV := pOf (.fs 6 false [r4, r5])
noncomputable def k48 : List Known := [rE p48 0 r4, rE p48 1 r5, aE p48 a2]
theorem w48 (x y z : Int) : Way x y z bq48 := ⟨p48, k48, fun z => fb (by kernel_rfl) (by kernel_rfl) rfl, runs_ok (by kernel_rfl), by kernel_rfl⟩
noncomputable def bq49 : List Bool := [true, false, false, false, true, true, false, false, false]
noncomputable def p49 : AV := pOf (.fs 6 false [r0, r4, r5])
noncomputable def k49 : List Known := [rE p49 0 r0, rE p49 1 r4, rE p49 2 r5, aE p49 a3]
theorem w49 (x y z : Int) : Way x y z bq49 := ⟨p49, k49, fun z => fb (by kernel_rfl) (by kernel_rfl) rfl, runs_ok (by kernel_rfl), by kernel_rfl⟩
noncomputable def bq50 : List Bool := [false, true, false, false, true, true, false, false, false]
noncomputable def p50 : AV := pOf (.fs 6 false [r1, r4, r5])
noncomputable def k50 : List Known := [rE p50 0 r1, rE p50 1 r4, rE p50 2 r5, aE p50 a3]
theorem w50 (x y z : Int) : Way x y z bq50 := ⟨p50, k50, fun z => fb (by kernel_rfl) (by kernel_rfl) rfl, runs_ok (by kernel_rfl), by kernel_rfl⟩
noncomputable def bq51 : List Bool := [true, true, false, false, true, true, false, false, false]
noncomputable def p51 : AV := pOf (.fs 6 false [r0, r1, r4, r5])
noncomputable def k51 : List Known := [rE p51 0 r0, rE p51 1 r1, rE p51 2 r4, rE p51 3 r5, aE p51 a4]
theorem w51 (x y z : Int) : Way x y z bq51 := ⟨p51, k51, fun z => fb (by kernel_rfl) (by kernel_rfl) rfl, runs_ok (by kernel_rfl), by kernel_rfl⟩
noncomputable def bq52 : List Bool := [false, false, true, false, true, true, false, false, false]
noncomputable def p52 : AV := pOf (.fs 6 false [r2, r4, r5])
noncomputable def k52 : List Known := [rE p52 0 r2, rE p52 1 r4, rE p52 2 r5, aE p52 a3]
theorem w52 (x y z : Int) : Way x y z bq52 := ⟨p52, k52, fun z => fb (by kernel_rfl) (by kernel_rfl) rfl, runs_ok (by kernel_rfl), by kernel_rfl⟩
noncomputable def bq53 : List Bool := [true, false, true, false, true, true, false, false, false]
noncomputable def p53 : AV := pOf (.fs 6 false [r0, r2, r4, r5])
noncomputable def k53 : List Known := [rE p53 0 r0, rE p53 1 r2, rE p53 2 r4, rE p53 3 r5, aE p53 a4]
theorem w53 (x y z : Int) : Way x y z bq53 := ⟨p53, k53, fun z => fb (by kernel_rfl) (by kernel_rfl) rfl, runs_ok (by kernel_rfl), by kernel_rfl⟩
noncomputable def bq54 : List Bool := [false, true, true, false, true, true, false, false, false]
noncomputable def p54 : AV := pOf (.fs 6 false [r1, r2, r4, r5])
noncomputable def k54 : List Known := [rE p54 0 r1, rE p54 1 r2, rE p54 2 r4, rE p54 3 r5, aE p54 a4]
theorem w54 (x y z : Int) : Way x y z bq54 := ⟨p54, k54, fun z => fb (by kernel_rfl) (by kernel_rfl) rfl, runs_ok (by kernel_rfl), by kernel_rfl⟩
noncomputable def bq55 : List Bool := [true, true, true, false, true, true, false, false, false]
noncomputable def p55 : AV := pOf (.fs 6 false [r0, r1, r2, r4, r5])
noncomputable def k55 : List Known := [rE p55 0 r0, rE p55 1 r1, rE p55 2 r2, rE p55 3 r4, rE p55 4 r5, aE p55 a5]
theorem w55 (x y z : Int) : Way x y z bq55 := ⟨p55, k55, fun z => fb (by kernel_rfl) (by kernel_rfl) rfl, runs_ok (by kernel_rfl), by kernel_rfl⟩
noncomputable def bq56 : List Bool := [false, false, false, true, true, true, false, false, false]
noncomputable def p56 : AV := pOf (.fs 6 false [r3, r4, r5])
noncomputable def k56 : List Known := [rE p56 0 r3, rE p56 1 r4, rE p56 2 r5, aE p56 a3]
theorem w56 (x y z : Int) : Way x y z bq56 := ⟨p56, k56, fun z => fb (by kernel_rfl) (by kernel_rfl) rfl, runs_ok (by kernel_rfl), by kernel_rfl⟩
noncomputable def bq57 : List Bool := [true, false, false, true, true, true, false, false, false]
noncomputable def p57 : AV := pOf (.fs 6 false [r0, r3, r4, r5])
noncomputable def k57 : List Known := [rE p57 0 r0, rE p57 1 r3, rE p57 2 r4, rE p57 3 r5, aE p57 a4]
theorem w57 (x y z : Int) : Way x y z bq57 := ⟨p57, k57, fun z => fb (by kernel_rfl) (by kernel_rfl) rfl, runs_ok (by kernel_rfl), by kernel_rfl⟩
noncomputable def bq58 : List Bool := [false, true, false, true, true, true, false, false, false]
noncomputable def p58 : AV := pOf (.fs 6 false [r1, r3, r4, r5])
noncomputable def k58 : List Known := [rE p58 0 r1, rE p58 1 r3, rE p58 2 r4, rE p58 3 r5, aE p58 a4]
theorem w58 (x y z : Int) : Way x y z bq58 := ⟨p58, k58, fun z => fb (by kernel_rfl) (by kernel_rfl) rfl, runs_ok (by kernel_rfl), by kernel_rfl⟩
end Go.Zev.Ob
