/-
  Printed by ob.py: choices of heads; what is known of each; its ways.
-/
import Derived.Test.YtakhchbeofknaaaGF
set_option linter.unusedVariables false
set_option maxRecDepth 20000
namespace Go.Zev.Ob
open Go Go.Zev Go.Proofs
noncomputable def b224 : List Bool := [false, false, false, false, false, true, true, true, false]
noncomputable def p224 : AV := pOf (.fs 6 false [r5, r6, r7])
noncomputable def k224 : List Known := [rE p224 0 r5, rE p224 1 r6, rE p224 2 r7, aE p224 a3]
theorem w224 (x y z : Int) : Way x y z b224 := ⟨p224, k224, fun z => fb (by kernel_rfl) (by kernel_rfl) rfl, runs_ok (by kernel_rfl), by kernel_rfl⟩
noncomputable def b225 : List Bool := [true, false, false, false, false, true, true, true, false]
noncomputable def p225 : AV := pOf (.fs 6 false [r0, r5, r6, r7])
noncomputable def k225 : List Known := [rE p225 0 r0, rE p225 1 r5, rE p225 2 r6, rE p225 3 r7, aE p225 a4]
theorem w225 (x y z : Int) : Way x y z b225 := ⟨p225, k225, fun z => fb (by kernel_rfl) (by kernel_rfl) rfl, runs_ok (by kernel_rfl), by kernel_rfl⟩
noncomputable def b226 : List Bool := [false, true, false, false, false, true, true, true, false]
noncomputable def p226 : AV := pOf (.fs 6 false [r1, r5, r6, r7])
noncomputable def k226 : List Known := [rE p226 0 r1, rE p226 1 r5, rE p226 2 r6, rE p226 3 r7, aE p226 a4]
theorem w226 (x y z : Int) : Way x y z b226 := ⟨p226, k226, fun z => fb (by kernel_rfl) (by kernel_rfl) rfl, runs_ok (by kernel_rfl), by kernel_rfl⟩
noncomputable def b227 : List Bool := [true, true, false, false, false, true, true, true, false]
noncomputable def p227 : AV := pOf (.fs 6 false [r0, r1, r5, r6, r7])
noncomputable def k227 : List Known := [rE p227 0 r0, rE p227 1 r1, rE p227 2 r5, rE p227 3 r6, rE p227 4 r7, aE p227 a5]
theorem w227 (x y z : Int) : Way x y z b227 := ⟨p227, k227, fun z => fb (by kernel_rfl) (by kernel_rfl) rfl, runs_ok (by kernel_rfl), by kernel_rfl⟩
noncomputable def b228 : List Bool := [false, false, true, false, false, true, true, true, false]
noncomputable def p228 : AV := pOf (.fs 6 false [r2, r5, r6, r7])
noncomputable def k228 : List Known := [rE p228 0 r2, rE p228 1 r5, rE p228 2 r6, rE p228 3 r7, aE p228 a4]
theorem w228 (x y z : Int) : Way x y z b228 := ⟨p228, k228, fun z => fb (by kernel_rfl) (by kernel_rfl) rfl, runs_ok (by kernel_rfl), by kernel_rfl⟩
noncomputable def b229 : List Bool := [true, false, true, false, false, true, true, true, false]
noncomputable def p229 : AV := pOf (.fs 6 false [r0, r2, r5, r6, r7])
noncomputable def k229 : List Known := [rE p229 0 r0, rE p229 1 r2, rE p229 2 r5, rE p229 3 r6, rE p229 4 r7, aE p229 a5]
theorem w229 (x y z : Int) : Way x y z b229 := ⟨p229, k229, fun z => fb (by kernel_rfl) (by kernel_rfl) rfl, runs_ok (by kernel_rfl), by kernel_rfl⟩
noncomputable def b230 : List Bool := [false, true, true, false, false, true, true, true, false]
noncomputable def p230 : AV := pOf (.fs 6 false [r1, r2, r5, r6, r7])
noncomputable def k230 : List Known := [rE p230 0 r1, rE p230 1 r2, rE p230 2 r5, rE p230 3 r6, rE p230 4 r7, aE p230 a5]
theorem w230 (x y z : Int) : Way x y z b230 := ⟨p230, k230, fun z => fb (by kernel_rfl) (by kernel_rfl) rfl, runs_ok (by kernel_rfl), by kernel_rfl⟩
noncomputable def b231 : List Bool := [true, true, true, false, false, true, true, true, false]
noncomputable def p231 : AV := pOf (.fs 6 false [r0, r1, r2, r5, r6, r7])
noncomputable def k231 : List Known := [rE p231 0 r0, rE p231 1 r1, rE p231 2 r2, rE p231 3 r5, rE p231 4 r6, rE p231 5 r7, aE p231 a6]
theorem w231 (x y z : Int) : Way x y z b231 := ⟨p231, k231, fun z => fb (by kernel_rfl) (by kernel_rfl) rfl, runs_ok (by kernel_rfl), by kernel_rfl⟩
noncomputable def b232 : List Bool := [false, false, false, true, false, true, true, true, false]
noncomputable def p232 : AV := pOf (.fs 6 false [r3, r5, r6, r7])
noncomputable def k232 : List Known := [rE p232 0 r3, rE p232 1 r5, rE p232 2 r6, rE p232 3 r7, aE p232 a4]
theorem w232 (x y z : Int) : Way x y z b232 := ⟨p232, k232, fun z => fb (by kernel_rfl) (by kernel_rfl) rfl, runs_ok (by kernel_rfl), by kernel_rfl⟩
noncomputable def b233 : List Bool := [true, false, false, true, false, true, true, true, false]
noncomputable def p233 : AV := pOf (.fs 6 false [r0, r3, r5, r6, r7])
noncomputable def k233 : List Known := [rE p233 0 r0, rE p233 1 r3, rE p233 2 r5, rE p233 3 r6, rE p233 4 r7, aE p233 a5]
theorem w233 (x y z : Int) : Way x y z b233 := ⟨p233, k233, fun z => fb (by kernel_rfl) (by kernel_rfl) rfl, runs_ok (by kernel_rfl), by kernel_rfl⟩
noncomputable def b234 : List Bool := [false, true, false, true, false, true, true, true, false]
noncomputable def p234 : AV := pOf (.fs 6 false [r1, r3, r5, r6, r7])
noncomputable def k234 : List Known := [rE p234 0 r1, rE p234 1 r3, rE p234 2 r5, rE p234 3 r6, rE p234 4 r7, aE p234 a5]
theorem w234 (x y z : Int) : Way x y z b234 := ⟨p234, k234, fun z => fb (by kernel_rfl) (by kernel_rfl) rfl, runs_ok (by kernel_rfl), by kernel_rfl⟩
noncomputable def b235 : List Bool := [true, true, false, true, false, true, true, true, false]
noncomputable def p235 : AV := pOf (.fs 6 false [r0, r1, r3, r5, r6, r7])
noncomputable def k235 : List Known := [rE p235 0 r0, rE p235 1 r1, rE p235 2 r3, rE p235 3 r5, rE p235 4 r6, rE p235 5 r7, aE p235 a6]
theorem w235 (x y z : Int) : Way x y z b235 := ⟨p235, k235, fun z => fb (by kernel_rfl) (by kernel_rfl) rfl, runs_ok (by kernel_rfl), by kernel_rfl⟩
noncomputable def b236 : List Bool := [false, false, true, true, false, true, true, true, false]
noncomputable def p236 : AV := pOf (.fs 6 false [r2, r3, r5, r6, r7])
noncomputable def k236 : List Known := [rE p236 0 r2, rE p236 1 r3, rE p236 2 r5, rE p236 3 r6, rE p236 4 r7, aE p236 a5]
theorem w236 (x y z : Int) : Way x y z b236 := ⟨p236, k236, fun z => fb (by kernel_rfl) (by kernel_rfl) rfl, runs_ok (by kernel_rfl), by kernel_rfl⟩
noncomputable def b237 : List Bool := [true, false, true, true, false, true, true, true, false]
noncomputable def p237 : AV := pOf (.fs 6 false [r0, r2, r3, r5, r6, r7])
noncomputable def k237 : List Known := [rE p237 0 r0, rE p237 1 r2, rE p237 2 r3, rE p237 3 r5, rE p237 4 r6, rE p237 5 r7, aE p237 a6]
theorem w237 (x y z : Int) : Way x y z b237 := ⟨p237, k237, fun z => fb (by kernel_rfl) (by kernel_rfl) rfl, runs_ok (by kernel_rfl), by kernel_rfl⟩
end Go.Zev.Ob
