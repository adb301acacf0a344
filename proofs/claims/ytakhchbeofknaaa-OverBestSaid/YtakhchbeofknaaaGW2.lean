/-
  Printed by ob.py: choices of heads; what is known of each; its ways.
-/
import Derived.Test.YtakhchbeofknaaaGF
set_option linter.unusedVariables false
set_option maxRecDepth 20000
namespace Go.Zev.Ob
open Go Go.Zev Go.Proofs
noncomputable def bq32 : List Bool := [false, false, false, false, false, true, false, false, false]
noncomputable def p32 : AV := pOf (.fs 6 false [r5])
noncomputable def k32 : List Known := [rE p32 0 r5, aE p32 a1]
theorem w32 (x y z : Int) : Way x y z bq32 := ⟨p32, k32, fun z => fb (by kernel_rfl) (by kernel_rfl) rfl, runs_ok (by kernel_rfl), by kernel_rfl⟩
noncomputable def bq33 : List Bool := [true, false, false, false, false, true, false, false, false]
noncomputable def p33 : AV := pOf (.fs 6 false [r0, r5])
noncomputable def k33 : List Known := [rE p33 0 r0, rE p33 1 r5, aE p33 a2]
theorem w33 (x y z : Int) : Way x y z bq33 := ⟨p33, k33, fun z => fb (by kernel_rfl) (by kernel_rfl) rfl, runs_ok (by kernel_rfl), by kernel_rfl⟩
noncomputable def bq34 : List Bool := [false, true, false, false, false, true, false, false, false]
noncomputable def p34 : AV := pOf (.fs 6 false [r1, r5])
noncomputable def k34 : List Known := [rE p34 0 r1, rE p34 1 r5, aE p34 a2]
theorem w34 (x y z : Int) : Way x y z bq34 := ⟨p34, k34, fun z => fb (by kernel_rfl) (by kernel_rfl) rfl, runs_ok (by kernel_rfl), by kernel_rfl⟩
noncomputable def bq35 : List Bool := [true, true, false, false, false, true, false, false, false]
noncomputable def p35 : AV := pOf (.fs 6 false [r0, r1, r5])
noncomputable def k35 : List Known := [rE p35 0 r0, rE p35 1 r1, rE p35 2 r5, aE p35 a3]
theorem w35 (x y z : Int) : Way x y z bq35 := ⟨p35, k35, fun z => fb (by kernel_rfl) (by kernel_rfl) rfl, runs_ok (by kernel_rfl), by kernel_rfl⟩
noncomputable def bq36 : List Bool := [false, false, true, false, false, true, false, false, false]
noncomputable def p36 : AV := pOf (.fs 6 false [r2, r5])
noncomputable def k36 : List Known := [rE p36 0 r2, rE p36 1 r5, aE p36 a2]
theorem w36 (x y z : Int) : Way x y z bq36 := ⟨p36, k36, fun z => fb (by kernel_rfl) (by kernel_rfl) rfl, runs_ok (by kernel_rfl), by kernel_rfl⟩
noncomputable def bq37 : List Bool := [true, false, true, false, false, true, false, false, false]
noncomputable def p37 : AV := pOf (.fs 6 false [r0, r2, r5])
noncomputable def k37 : List Known := [rE p37 0 r0, rE p37 1 r2, rE p37 2 r5, aE p37 a3]
theorem w37 (x y z : Int) : Way x y z bq37 := ⟨p37, k37, fun z => fb (by kernel_rfl) (by kernel_rfl) rfl, runs_ok (by kernel_rfl), by kernel_rfl⟩
noncomputable def bq38 : List Bool := [false, true, true, false, false, true, false, false, false]
noncomputable def p38 : AV := pOf (.fs 6 false [r1, r2, r5])
noncomputable def k38 : List Known := [rE p38 0 r1, rE p38 1 r2, rE p38 2 r5, aE p38 a3]
theorem w38 (x y z : Int) : Way x y z bq38 := ⟨p38, k38, fun z => fb (by kernel_rfl) (by kernel_rfl) rfl, runs_ok (by kernel_rfl), by kernel_rfl⟩
noncomputable def bq39 : List Bool := [true, true, true, false, false, true, false, false, false]
noncomputable def p39 : AV := pOf (.fs 6 false [r0, r1, r2, r5])
noncomputable def k39 : List Known := [rE p39 0 r0, rE p39 1 r1, rE p39 2 r2, rE p39 3 r5, aE p39 a4]
theorem w39 (x y z : Int) : Way x y z bq39 := ⟨p39, k39, fun z => fb (by kernel_rfl) (by kernel_rfl) rfl, runs_ok (by kernel_rfl), by kernel_rfl⟩
noncomputable def bq40 : List Bool := [false, false, false, true, false, true, false, false, false]
noncomputable def p40 : AV := pOf (.fs 6 false [r3, r5])
noncomputable def k40 : List Known := [rE p40 0 r3, rE p40 1 r5, aE p40 a2]
theorem w40 (x y z : Int) : Way x y z bq40 := ⟨p40, k40, fun z => fb (by kernel_rfl) (by kernel_rfl) rfl, runs_ok (by kernel_rfl), by kernel_rfl⟩
noncomputable def bq41 : List Bool := [true, false, false, true, false, true, false, false, false]
noncomputable def p41 : AV := pOf (.fs 6 false [r0, r3, r5])
noncomputable def k41 : List Known := [rE p41 0 r0, rE p41 1 r3, rE p41 2 r5, aE p41 a3]
theorem w41 (x y z : Int) : Way x y z bq41 := ⟨p41, k41, fun z => fb (by kernel_rfl) (by kernel_rfl) rfl, runs_ok (by kernel_rfl), by kernel_rfl⟩
noncomputable def bq42 : List Bool := [false, true, false, true, false, true, false, false, false]
noncomputable def p42 : AV := pOf (.fs 6 false [r1, r3, r5])
noncomputable def k42 : List Known := [rE p42 0 r1, rE p42 1 r3, rE p42 2 r5, aE p42 a3]
theorem w42 (x y z : Int) : Way x y z bq42 := ⟨p42, k42, fun z => fb (by kernel_rfl) (by kernel_rfl) rfl, runs_ok (by kernel_rfl), by kernel_rfl⟩
noncomputable def bq43 : List Bool := [true, true, false, true, false, true, false, false, false]
noncomputable def p43 : AV := pOf (.fs 6 false [r0, r1, r3, r5])
noncomputable def k43 : List Known := [rE p43 0 r0, rE p43 1 r1, rE p43 2 r3, rE p43 3 r5, aE p43 a4]
theorem w43 (x y z : Int) : Way x y z bq43 := ⟨p43, k43, fun z => fb (by kernel_rfl) (by kernel_rfl) rfl, runs_ok (by kernel_rfl), by kernel_rfl⟩
noncomputable def bq44 : List Bool := [false, false, true, true, false, true, false, false, false]
noncomputable def p44 : AV := pOf (.fs 6 false [r2, r3, r5])
noncomputable def k44 : List Known := [rE p44 0 r2, rE p44 1 r3, rE p44 2 r5, aE p44 a3]
theorem w44 (x y z : Int) : Way x y z bq44 := ⟨p44, k44, fun z => fb (by kernel_rfl) (by kernel_rfl) rfl, runs_ok (by kernel_rfl), by kernel_rfl⟩
noncomputable def bq45 : List Bool := [true, false, true, true, false, true, false, false, false]
noncomputable def p45 : AV := pOf (.fs 6 false [r0, r2, r3, r5])
noncomputable def k45 : List Known := [rE p45 0 r0, rE p45 1 r2, rE p45 2 r3, rE p45 3 r5, aE p45 a4]
theorem w45 (x y z : Int) : Way x y z bq45 := ⟨p45, k45, fun z => fb (by kernel_rfl) (by kernel_rfl) rfl, runs_ok (by kernel_rfl), by kernel_rfl⟩
noncomputable def bq46 : List Bool := [false, true, true, true, false, true, false, false, false]
noncomputable def p46 : AV := pOf (.fs 6 false [r1, r2, r3, r5])
noncomputable def k46 : List Known := [rE p46 0 r1, rE p46 1 r2, rE p46 2 r3, rE p46 3 r5, aE p46 a4]
theorem w46 (x y z : Int) : Way x y z bq46 := ⟨p46, k46, fun z => fb (by kernel_rfl) (by kernel_rfl) rfl, runs_ok (by kernel_rfl), by kernel_rfl⟩
end Go.Zev.Ob
