/-
  Printed by ob.py: choices of heads; what is known of each; its ways.
-/
import Derived.Test.YtakhchbeofknaaaGF
set_option linter.unusedVariables false
set_option maxRecDepth 20000
namespace Go.Zev.Ob
open Go Go.Zev Go.Proofs
noncomputable def bq0 : List Bool := [false, false, false, false, false, false, false, false, false]
noncomputable def p0 : AV := pOf .nsl
noncomputable def k0 : List Known := [aE p0 a0]
theorem w0 (x y z : Int) : Way x y z bq0 := ⟨p0, k0, fun z => fb (by kernel_rfl) (by kernel_rfl) rfl, runs_ok (by kernel_rfl), by kernel_rfl⟩
noncomputable def bq1 : List Bool := [true, false, false, false, false, false, false, false, false]
noncomputable def p1 : AV := pOf (.fs 6 false [r0])
noncomputable def k1 : List Known := [rE p1 0 r0, aE p1 a1]
theorem w1 (x y z : Int) : Way x y z bq1 := ⟨p1, k1, fun z => fb (by kernel_rfl) (by kernel_rfl) rfl, runs_ok (by kernel_rfl), by kernel_rfl⟩
noncomputable def bq2 : List Bool := [false, true, false, false, false, false, false, false, false]
noncomputable def p2 : AV := pOf (.fs 6 false [r1])
noncomputable def k2 : List Known := [rE p2 0 r1, aE p2 a1]
theorem w2 (x y z : Int) : Way x y z bq2 := ⟨p2, k2, fun z => fb (by kernel_rfl) (by kernel_rfl) rfl, runs_ok (by kernel_rfl), by kernel_rfl⟩
noncomputable def bq3 : List Bool := [true, true, false, false, false, false, false, false, false]
noncomputable def p3 : AV := pOf (.fs 6 false [r0, r1])
noncomputable def k3 : List Known := [rE p3 0 r0, rE p3 1 r1, aE p3 a2]
theorem w3 (x y z : Int) : Way x y z bq3 := ⟨p3, k3, fun z => fb (by kernel_rfl) (by kernel_rfl) rfl, runs_ok (by kernel_rfl), by kernel_rfl⟩
noncomputable def bq4 : List Bool := [false, false, true, false, false, false, false, false, false]
noncomputable def p4 : AV := pOf (.fs 6 false [r2])
noncomputable def k4 : List Known := [rE p4 0 r2, aE p4 a1]
theorem w4 (x y z : Int) : Way x y z bq4 := ⟨p4, k4, fun z => fb (by kernel_rfl) (by kernel_rfl) rfl, runs_ok (by kernel_rfl), by kernel_rfl⟩
noncomputable def bq5 : List Bool := [true, false, true, false, false, false, false, false, false]
noncomputable def p5 : AV := pOf (.fs 6 false [r0, r2])
noncomputable def k5 : List Known := [rE p5 0 r0, rE p5 1 r2, aE p5 a2]
theorem w5 (x y z : Int) : Way x y z bq5 := ⟨p5, k5, fun z => fb (by kernel_rfl) (by kernel_rfl) rfl, runs_ok (by kernel_rfl), by kernel_rfl⟩
noncomputable def bq6 : List Bool := [false, true, true, false, false, false, false, false, false]
noncomputable def p6 : AV := pOf (.fs 6 false [r1, r2])
noncomputable def k6 : List Known := [rE p6 0 r1, rE p6 1 r2, aE p6 a2]
theorem w6 (x y z : Int) : Way x y z bq6 := ⟨p6, k6, fun z => fb (by kernel_rfl) (by kernel_rfl) rfl, runs_ok (by kernel_rfl), by kernel_rfl⟩
noncomputable def bq7 : List Bool := [true, true, true, false, false, false, false, false, false]
noncomputable def p7 : AV := pOf (.fs 6 false [r0, r1, r2])
noncomputable def k7 : List Known := [rE p7 0 r0, rE p7 1 r1, rE p7 2 r2, aE p7 a3]
theorem w7 (x y z : Int) : Way x y z bq7 := ⟨p7, k7, fun z => fb (by kernel_rfl) (by kernel_rfl) rfl, runs_ok (by kernel_rfl), by kernel_rfl⟩
noncomputable def bq8 : List Bool := [false, false, false, true, false, false, false, false, false]
noncomputable def p8 : AV := pOf (.fs 6 false [r3])
noncomputable def k8 : List Known := [rE p8 0 r3, aE p8 a1]
theorem w8 (x y z : Int) : Way x y z bq8 := ⟨p8, k8, fun z => fb (by kernel_rfl) (by kernel_rfl) rfl, runs_ok (by kernel_rfl), by kernel_rfl⟩
noncomputable def bq9 : List Bool := [true, false, false, true, false, false, false, false, false]
noncomputable def p9 : AV := pOf (.fs 6 false [r0, r3])
noncomputable def k9 : List Known := [rE p9 0 r0, rE p9 1 r3, aE p9 a2]
theorem w9 (x y z : Int) : Way x y z bq9 := ⟨p9, k9, fun z => fb (by kernel_rfl) (by kernel_rfl) rfl, runs_ok (by kernel_rfl), by kernel_rfl⟩
noncomputable def bq10 : List Bool := [false, true, false, true, false, false, false, false, false]
noncomputable def p10 : AV := pOf (.fs 6 false [r1, r3])
noncomputable def k10 : List Known := [rE p10 0 r1, rE p10 1 r3, aE p10 a2]
theorem w10 (x y z : Int) : Way x y z bq10 := ⟨p10, k10, fun z => fb (by kernel_rfl) (by kernel_rfl) rfl, runs_ok (by kernel_rfl), by kernel_rfl⟩
noncomputable def bq11 : List Bool := [true, true, false, true, false, false, false, false, false]
noncomputable def p11 : AV := pOf (.fs 6 false [r0, r1, r3])
noncomputable def k11 : List Known := [rE p11 0 r0, rE p11 1 r1, rE p11 2 r3, aE p11 a3]
theorem w11 (x y z : Int) : Way x y z bq11 := ⟨p11, k11, fun z => fb (by kernel_rfl) (by kernel_rfl) rfl, runs_ok (by kernel_rfl), by kernel_rfl⟩
noncomputable def bq12 : List Bool := [false, false, true, true, false, false, false, false, false]
noncomputable def p12 : AV := pOf (.fs 6 false [r2, r3])
noncomputable def k12 : List Known := [rE p12 0 r2, rE p12 1 r3, aE p12 a2]
theorem w12 (x y z : Int) : Way x y z bq12 := ⟨p12, k12, fun z => fb (by kernel_rfl) (by kernel_rfl) rfl, runs_ok (by kernel_rfl), by kernel_rfl⟩
noncomputable def bq13 : List Bool := [true, false, true, true, false, false, false, false, false]
noncomputable def p13 : AV := pOf (.fs 6 false [r0, r2, r3])
noncomputable def k13 : List Known := [rE p13 0 r0, rE p13 1 r2, rE p13 2 r3, aE p13 a3]
theorem w13 (x y z : Int) : Way x y z bq13 := ⟨p13, k13, fun z => fb (by kernel_rfl) (by kernel_rfl) rfl, runs_ok (by kernel_rfl), by kernel_rfl⟩
noncomputable def bq14 : List Bool := [false, true, true, true, false, false, false, false, false]
noncomputable def p14 : AV := pOf (.fs 6 false [r1, r2, r3])
noncomputable def k14 : List Known := [rE p14 0 r1, rE p14 1 r2, rE p14 2 r3, aE p14 a3]
theorem w14 (x y z : Int) : Way x y z bq14 := ⟨p14, k14, fun z => fb (by kernel_rfl) (by kernel_rfl) rfl, runs_ok (by kernel_rfl), by kernel_rfl⟩
noncomputable def bq15 : List Bool := [true, true, true, true, false, false, false, false, false]
noncomputable def p15 : AV := pOf (.fs 6 false [r0, r1, r2, r3])
noncomputable def k15 : List Known := [rE p15 0 r0, rE p15 1 r1, rE p15 2 r2, rE p15 3 r3, aE p15 a4]
theorem w15 (x y z : Int) : Way x y z bq15 := ⟨p15, k15, fun z => fb (by kernel_rfl) (by kernel_rfl) rfl, runs_ok (by kernel_rfl), by kernel_rfl⟩
noncomputable def bq16 : List Bool := [false, false, false, false, true, false, false, false, false]
noncomputable def p16 : AV := pOf (.fs 6 false [r4])
noncomputable def k16 : List Known := [rE p16 0 r4, aE p16 a1]
theorem w16 (x y z : Int) : Way x y z bq16 := ⟨p16, k16, fun z => fb (by kernel_rfl) (by kernel_rfl) rfl, runs_ok (by kernel_rfl), by kernel_rfl⟩
noncomputable def bq17 : List Bool := [true, false, false, false, true, false, false, false, false]
noncomputable def p17 : AV := pOf (.fs 6 false [r0, r4])
noncomputable def k17 : List Known := [rE p17 0 r0, rE p17 1 r4, aE p17 a2]
theorem w17 (x y z : Int) : Way x y z bq17 := ⟨p17, k17, fun z => fb (by kernel_rfl) (by kernel_rfl) rfl, runs_ok (by kernel_rfl), by kernel_rfl⟩
end Go.Zev.Ob
