/-
  Printed by ob.py: choices of heads; what is known of each; its ways.
-/
import Derived.Test.YtakhchbeofknaaaGF
set_option linter.unusedVariables false
set_option maxRecDepth 20000
namespace Go.Zev.Ob
open Go Go.Zev Go.Proofs
noncomputable def b169 : List Bool := [true, false, false, true, false, true, false, true, false]
noncomputable def p169 : AV := pOf (.fs 6 false [r0, r3, r5, r7])
noncomputable def k169 : List Known := [rE p169 0 r0, rE p169 1 r3, rE p169 2 r5, rE p169 3 r7, aE p169 a4]
theorem w169 (x y z : Int) : Way x y z b169 := ⟨p169, k169, fun z => fb (by kernel_rfl) (by kernel_rfl) rfl, runs_ok (by kernel_rfl), by kernel_rfl⟩
noncomputable def b170 : List Bool := [false, true, false, true, false, true, false, true, false]
noncomputable def p170 : AV := pOf (.fs 6 false [r1, r3, r5, r7])
noncomputable def k170 : List Known := [rE p170 0 r1, rE p170 1 r3, rE p170 2 r5, rE p170 3 r7, aE p170 a4]
theorem w170 (x y z : Int) : Way x y z b170 := ⟨p170, k170, fun z => fb (by kernel_rfl) (by kernel_rfl) rfl, runs_ok (by kernel_rfl), by kernel_rfl⟩
noncomputable def b171 : List Bool := [true, true, false, true, false, true, false, true, false]
noncomputable def p171 : AV := pOf (.fs 6 false [r0, r1, r3, r5, r7])
noncomputable def k171 : List Known := [rE p171 0 r0, rE p171 1 r1, rE p171 2 r3, rE p171 3 r5, rE p171 4 r7, aE p171 a5]
theorem w171 (x y z : Int) : Way x y z b171 := ⟨p171, k171, fun z => fb (by kernel_rfl) (by kernel_rfl) rfl, runs_ok (by kernel_rfl), by kernel_rfl⟩
noncomputable def b172 : List Bool := [false, false, true, true, false, true, false, true, false]
noncomputable def p172 : AV := pOf (.fs 6 false [r2, r3, r5, r7])
noncomputable def k172 : List Known := [rE p172 0 r2, rE p172 1 r3, rE p172 2 r5, rE p172 3 r7, aE p172 a4]
theorem w172 (x y z : Int) : Way x y z b172 := ⟨p172, k172, fun z => fb (by kernel_rfl) (by kernel_rfl) rfl, runs_ok (by kernel_rfl), by kernel_rfl⟩
noncomputable def b173 : List Bool := [true, false, true, true, false, true, false, true, false]
noncomputable def p173 : AV := pOf (.fs 6 false [r0, r2, r3, r5, r7])
noncomputable def k173 : List Known := [rE p173 0 r0, rE p173 1 r2, rE p173 2 r3, rE p173 3 r5, rE p173 4 r7, aE p173 a5]
theorem w173 (x y z : Int) : Way x y z b173 := ⟨p173, k173, fun z => fb (by kernel_rfl) (by kernel_rfl) rfl, runs_ok (by kernel_rfl), by kernel_rfl⟩
noncomputable def b174 : List Bool := [false, true, true, true, false, true, false, true, false]
noncomputable def p174 : AV := pOf (.fs 6 false [r1, r2, r3, r5, r7])
noncomputable def k174 : List Known := [rE p174 0 r1, rE p174 1 r2, rE p174 2 r3, rE p174 3 r5, rE p174 4 r7, aE p174 a5]
theorem w174 (x y z : Int) : Way x y z b174 := ⟨p174, k174, fun z => fb (by kernel_rfl) (by kernel_rfl) rfl, runs_ok (by kernel_rfl), by kernel_rfl⟩
noncomputable def b175 : List Bool := [true, true, true, true, false, true, false, true, false]
noncomputable def p175 : AV := pOf (.fs 6 false [r0, r1, r2, r3, r5, r7])
noncomputable def k175 : List Known := [rE p175 0 r0, rE p175 1 r1, rE p175 2 r2, rE p175 3 r3, rE p175 4 r5, rE p175 5 r7, aE p175 a6]
theorem w175 (x y z : Int) : Way x y z b175 := ⟨p175, k175, fun z => fb (by kernel_rfl) (by kernel_rfl) rfl, runs_ok (by kernel_rfl), by kernel_rfl⟩
noncomputable def b176 : List Bool := [false, false, false, false, true, true, false, true, false]
noncomputable def p176 : AV := pOf (.fs 6 false [r4, r5, r7])
noncomputable def k176 : List Known := [rE p176 0 r4, rE p176 1 r5, rE p176 2 r7, aE p176 a3]
theorem w176 (x y z : Int) : Way x y z b176 := ⟨p176, k176, fun z => fb (by kernel_rfl) (by kernel_rfl) rfl, runs_ok (by kernel_rfl), by kernel_rfl⟩
noncomputable def b177 : List Bool := [true, false, false, false, true, true, false, true, false]
noncomputable def p177 : AV := pOf (.fs 6 false [r0, r4, r5, r7])
noncomputable def k177 : List Known := [rE p177 0 r0, rE p177 1 r4, rE p177 2 r5, rE p177 3 r7, aE p177 a4]
theorem w177 (x y z : Int) : Way x y z b177 := ⟨p177, k177, fun z => fb (by kernel_rfl) (by kernel_rfl) rfl, runs_ok (by kernel_rfl), by kernel_rfl⟩
noncomputable def b178 : List Bool := [false, true, false, false, true, true, false, true, false]
noncomputable def p178 : AV := pOf (.fs 6 false [r1, r4, r5, r7])
noncomputable def k178 : List Known := [rE p178 0 r1, rE p178 1 r4, rE p178 2 r5, rE p178 3 r7, aE p178 a4]
theorem w178 (x y z : Int) : Way x y z b178 := ⟨p178, k178, fun z => fb (by kernel_rfl) (by kernel_rfl) rfl, runs_ok (by kernel_rfl), by kernel_rfl⟩
noncomputable def b179 : List Bool := [true, true, false, false, true, true, false, true, false]
noncomputable def p179 : AV := pOf (.fs 6 false [r0, r1, r4, r5, r7])
noncomputable def k179 : List Known := [rE p179 0 r0, rE p179 1 r1, rE p179 2 r4, rE p179 3 r5, rE p179 4 r7, aE p179 a5]
theorem w179 (x y z : Int) : Way x y z b179 := ⟨p179, k179, fun z => fb (by kernel_rfl) (by kernel_rfl) rfl, runs_ok (by kernel_rfl), by kernel_rfl⟩
noncomputable def b180 : List Bool := [false, false, true, false, true, true, false, true, false]
noncomputable def p180 : AV := pOf (.fs 6 false [r2, r4, r5, r7])
noncomputable def k180 : List Known := [rE p180 0 r2, rE p180 1 r4, rE p180 2 r5, rE p180 3 r7, aE p180 a4]
theorem w180 (x y z : Int) : Way x y z b180 := ⟨p180, k180, fun z => fb (by kernel_rfl) (by kernel_rfl) rfl, runs_ok (by kernel_rfl), by kernel_rfl⟩
noncomputable def b181 : List Bool := [true, false, true, false, true, true, false, true, false]
noncomputable def p181 : AV := pOf (.fs 6 false [r0, r2, r4, r5, r7])
noncomputable def k181 : List Known := [rE p181 0 r0, rE p181 1 r2, rE p181 2 r4, rE p181 3 r5, rE p181 4 r7, aE p181 a5]
theorem w181 (x y z : Int) : Way x y z b181 := ⟨p181, k181, fun z => fb (by kernel_rfl) (by kernel_rfl) rfl, runs_ok (by kernel_rfl), by kernel_rfl⟩
noncomputable def b182 : List Bool := [false, true, true, false, true, true, false, true, false]
noncomputable def p182 : AV := pOf (.fs 6 false [r1, r2, r4, r5, r7])
noncomputable def k182 : List Known := [rE p182 0 r1, rE p182 1 r2, rE p182 2 r4, rE p182 3 r5, rE p182 4 r7, aE p182 a5]
theorem w182 (x y z : Int) : Way x y z b182 := ⟨p182, k182, fun z => fb (by kernel_rfl) (by kernel_rfl) rfl, runs_ok (by kernel_rfl), by kernel_rfl⟩
noncomputable def b183 : List Bool := [true, true, true, false, true, true, false, true, false]
noncomputable def p183 : AV := pOf (.fs 6 false [r0, r1, r2, r4, r5, r7])
noncomputable def k183 : List Known := [rE p183 0 r0, rE p183 1 r1, rE p183 2 r2, rE p183 3 r4, rE p183 4 r5, rE p183 5 r7, aE p183 a6]
theorem w183 (x y z : Int) : Way x y z b183 := ⟨p183, k183, fun z => fb (by kernel_rfl) (by kernel_rfl) rfl, runs_ok (by kernel_rfl), by kernel_rfl⟩
end Go.Zev.Ob
