/-
  Printed by ob.py: choices of heads; what is known of each; its ways.
-/
import Derived.Test.YtakhchbeofknaaaGF
set_option linter.unusedVariables false
set_option maxRecDepth 20000
namespace Go.Zev.Ob
open Go Go.Zev Go.Proofs
noncomputable def bq18 : List Bool := [false, true, false, false, true, false, false, false, false]
noncomputable def p18 : AV := pOf (.fs 6 false [r1, r4])
noncomputable def k18 : List Known := [rE p18 0 r1, rE p18 1 r4, aE p18 a2]
theorem w18 (x y z : Int) : Way x y z bq18 := ⟨p18, k18, fun z => fb (by kernel_rfl) (by kernel_rfl) rfl, runs_ok (by kernel_rfl), by kernel_rfl⟩
noncomputable def bq19 : List Bool := [true, true, false, false, true, false, false, false, false]
noncomputable def p19 : AV := pOf (.fs 6 false [r0, r1, r4])
noncomputable def k19 : List Known := [rE p19 0 r0, rE p19 1 r1, rE p19 2 r4, aE p19 a3]
theorem w19 (x y z : Int) : Way x y z bq19 := ⟨p19, k19, fun z => fb (by kernel_rfl) (by kernel_rfl) rfl, runs_ok (by kernel_rfl), by kernel_rfl⟩
noncomputable def bq20 : List Bool := [false, false, true, false, true, false, false, false, false]
noncomputable def p20 : AV := pOf (.fs 6 false [r2, r4])
noncomputable def k20 : List Known := [rE p20 0 r2, rE p20 1 r4, aE p20 a2]
theorem w20 (x y z : Int) : Way x y z bq20 := ⟨p20, k20, fun z => fb (by kernel_rfl) (by kernel_rfl) rfl, runs_ok (by kernel_rfl), by kernel_rfl⟩
noncomputable def bq21 : List Bool := [true, false, true, false, true, false, false, false, false]
noncomputable def p21 : AV := pOf (.fs 6 false [r0, r2, r4])
noncomputable def k21 : List Known := [rE p21 0 r0, rE p21 1 r2, rE p21 2 r4, aE p21 a3]
theorem w21 (x y z : Int) : Way x y z bq21 := ⟨p21, k21, fun z => fb (by kernel_rfl) (by kernel_rfl) rfl, runs_ok (by kernel_rfl), by kernel_rfl⟩
noncomputable def bq22 : List Bool := [false, true, true, false, true, false, false, false, false]
noncomputable def p22 : AV := pOf (.fs 6 false [r1, r2, r4])
noncomputable def k22 : List Known := [rE p22 0 r1, rE p22 1 r2, rE p22 2 r4, aE p22 a3]
theorem w22 (x y z : Int) : Way x y z bq22 := ⟨p22, k22, fun z => fb (by kernel_rfl) (by kernel_rfl) rfl, runs_ok (by kernel_rfl), by kernel_rfl⟩
noncomputable def bq23 : List Bool := [true, true, true, false, true, false, false, false, false]
noncomputable def p23 : AV := pOf (.fs 6 false [r0, r1, r2, r4])
noncomputable def k23 : List Known := [rE p23 0 r0, rE p23 1 r1, rE p23 2 r2, rE p23 3 r4, aE p23 a4]
theorem w23 (x y z : Int) : Way x y z bq23 := ⟨p23, k23, fun z => fb (by kernel_rfl) (by kernel_rfl) rfl, runs_ok (by kernel_rfl), by kernel_rfl⟩
noncomputable def bq24 : List Bool := [false, false, false, true, true, false, false, false, false]
noncomputable def p24 : AV := pOf (.fs 6 false [r3, r4])
noncomputable def k24 : List Known := [rE p24 0 r3, rE p24 1 r4, aE p24 a2]
theorem w24 (x y z : Int) : Way x y z bq24 := ⟨p24, k24, fun z => fb (by kernel_rfl) (by kernel_rfl) rfl, runs_ok (by kernel_rfl), by kernel_rfl⟩
noncomputable def bq25 : List Bool := [true, false, false, true, true, false, false, false, false]
noncomputable def p25 : AV := pOf (.fs 6 false [r0, r3, r4])
noncomputable def k25 : List Known := [rE p25 0 r0, rE p25 1 r3, rE p25 2 r4, aE p25 a3]
theorem w25 (x y z : Int) : Way x y z bq25 := ⟨p25, k25, fun z => fb (by kernel_rfl) (by kernel_rfl) rfl, runs_ok (by kernel_rfl), by kernel_rfl⟩
noncomputable def bq26 : List Bool := [false, true, false, true, true, false, false, false, false]
noncomputable def p26 : AV := pOf (.fs 6 false [r1, r3, r4])
noncomputable def k26 : List Known := [rE p26 0 r1, rE p26 1 r3, rE p26 2 r4, aE p26 a3]
theorem w26 (x y z : Int) : Way x y z bq26 := ⟨p26, k26, fun z => fb (by kernel_rfl) (by kernel_rfl) rfl, runs_ok (by kernel_rfl), by kernel_rfl⟩
noncomputable def bq27 : List Bool := [true, true, false, true, true, false, false, false, false]
noncomputable def p27 : AV := pOf (.fs 6 false [r0, r1, r3, r4])
noncomputable def k27 : List Known := [rE p27 0 r0, rE p27 1 r1, rE p27 2 r3, rE p27 3 r4, aE p27 a4]
theorem w27 (x y z : Int) : Way x y z bq27 := ⟨p27, k27, fun z => fb (by kernel_rfl) (by kernel_rfl) rfl, runs_ok (by kernel_rfl), by kernel_rfl⟩
noncomputable def bq28 : List Bool := [false, false, true, true, true, false, false, false, false]
noncomputable def p28 : AV := pOf (.fs 6 false [r2, r3, r4])
noncomputable def k28 : List Known := [rE p28 0 r2, rE p28 1 r3, rE p28 2 r4, aE p28 a3]
theorem w28 (x y z : Int) : Way x y z bq28 := ⟨p28, k28, fun z => fb (by kernel_rfl) (by kernel_rfl) rfl, runs_ok (by kernel_rfl), by kernel_rfl⟩
noncomputable def bq29 : List Bool := [true, false, true, true, true, false, false, false, false]
noncomputable def p29 : AV := pOf (.fs 6 false [r0, r2, r3, r4])
noncomputable def k29 : List Known := [rE p29 0 r0, rE p29 1 r2, rE p29 2 r3, rE p29 3 r4, aE p29 a4]
theorem w29 (x y z : Int) : Way x y z bq29 := ⟨p29, k29, fun z => fb (by kernel_rfl) (by kernel_rfl) rfl, runs_ok (by kernel_rfl), by kernel_rfl⟩
noncomputable def bq30 : List Bool := [false, true, true, true, true, false, false, false, false]
noncomputable def p30 : AV := pOf (.fs 6 false [r1, r2, r3, r4])
noncomputable def k30 : List Known := [rE p30 0 r1, rE p30 1 r2, rE p30 2 r3, rE p30 3 r4, aE p30 a4]
theorem w30 (x y z : Int) : Way x y z bq30 := ⟨p30, k30, fun z => fb (by kernel_rfl) (by kernel_rfl) rfl, runs_ok (by kernel_rfl), by kernel_rfl⟩
noncomputable def bq31 : List Bool := [true, true, true, true, true, false, false, false, false]
noncomputable def p31 : AV := pOf (.fs 6 false [r0, r1, r2, r3, r4])
noncomputable def k31 : List Known := [rE p31 0 r0, rE p31 1 r1, rE p31 2 r2, rE p31 3 r3, rE p31 4 r4, aE p31 a5]
theorem w31 (x y z : Int) : Way x y z bq31 := ⟨p31, k31, fun z => fb (by kernel_rfl) (by kernel_rfl) rfl, runs_ok (by kernel_rfl), by kernel_rfl⟩
end Go.Zev.Ob
