/-
  Printed by ob.py: choices of heads; what is known of each; its ways.
-/
import Derived.Test.YtakhchbeofknaaaGF
set_option linter.unusedVariables false
set_option maxRecDepth 20000
namespace Go.Zev.Ob
open Go Go.Zev Go.Proofs
noncomputable def b87 : List Bool := [true, true, true, false, true, false, true, false, false]
noncomputable def p87 : AV := pOf (.fs 6 false [r0, r1, r2, r4, r6])
noncomputable def k87 : List Known := [rE p87 0 r0, rE p87 1 r1, rE p87 2 r2, rE p87 3 r4, rE p87 4 r6, aE p87 a5]
theorem w87 (x y z : Int) : Way x y z b87 := ⟨p87, k87, fun z => fb (by kernel_rfl) (by kernel_rfl) rfl, runs_ok (by kernel_rfl), by kernel_rfl⟩
noncomputable def b88 : List Bool := [false, false, false, true, true, false, true, false, false]
noncomputable def p88 : AV := pOf (.fs 6 false [r3, r4, r6])
noncomputable def k88 : List Known := [rE p88 0 r3, rE p88 1 r4, rE p88 2 r6, aE p88 a3]
theorem w88 (x y z : Int) : Way x y z b88 := ⟨p88, k88, fun z => fb (by kernel_rfl) (by kernel_rfl) rfl, runs_ok (by kernel_rfl), by kernel_rfl⟩
noncomputable def b89 : List Bool := [true, false, false, true, true, false, true, false, false]
noncomputable def p89 : AV := pOf (.fs 6 false [r0, r3, r4, r6])
noncomputable def k89 : List Known := [rE p89 0 r0, rE p89 1 r3, rE p89 2 r4, rE p89 3 r6, aE p89 a4]
theorem w89 (x y z : Int) : Way x y z b89 := ⟨p89, k89, fun z => fb (by kernel_rfl) (by kernel_rfl) rfl, runs_ok (by kernel_rfl), by kernel_rfl⟩
noncomputable def b90 : List Bool := [false, true, false, true, true, false, true, false, false]
noncomputable def p90 : AV := pOf (.fs 6 false [r1, r3, r4, r6])
noncomputable def k90 : List Known := [rE p90 0 r1, rE p90 1 r3, rE p90 2 r4, rE p90 3 r6, aE p90 a4]
theorem w90 (x y z : Int) : Way x y z b90 := ⟨p90, k90, fun z => fb (by kernel_rfl) (by kernel_rfl) rfl, runs_ok (by kernel_rfl), by kernel_rfl⟩
noncomputable def b91 : List Bool := [true, true, false, true, true, false, true, false, false]
noncomputable def p91 : AV := pOf (.fs 6 false [r0, r1, r3, r4, r6])
noncomputable def k91 : List Known := [rE p91 0 r0, rE p91 1 r1, rE p91 2 r3, rE p91 3 r4, rE p91 4 r6, aE p91 a5]
theorem w91 (x y z : Int) : Way x y z b91 := ⟨p91, k91, fun z => fb (by kernel_rfl) (by kernel_rfl) rfl, runs_ok (by kernel_rfl), by kernel_rfl⟩
noncomputable def b92 : List Bool := [false, false, true, true, true, false, true, false, false]
noncomputable def p92 : AV := pOf (.fs 6 false [r2, r3, r4, r6])
noncomputable def k92 : List Known := [rE p92 0 r2, rE p92 1 r3, rE p92 2 r4, rE p92 3 r6, aE p92 a4]
theorem w92 (x y z : Int) : Way x y z b92 := ⟨p92, k92, fun z => fb (by kernel_rfl) (by kernel_rfl) rfl, runs_ok (by kernel_rfl), by kernel_rfl⟩
noncomputable def b93 : List Bool := [true, false, true, true, true, false, true, false, false]
noncomputable def p93 : AV := pOf (.fs 6 false [r0, r2, r3, r4, r6])
noncomputable def k93 : List Known := [rE p93 0 r0, rE p93 1 r2, rE p93 2 r3, rE p93 3 r4, rE p93 4 r6, aE p93 a5]
theorem w93 (x y z : Int) : Way x y z b93 := ⟨p93, k93, fun z => fb (by kernel_rfl) (by kernel_rfl) rfl, runs_ok (by kernel_rfl), by kernel_rfl⟩
noncomputable def b94 : List Bool := [false, true, true, true, true, false, true, false, false]
noncomputable def p94 : AV := pOf (.fs 6 false [r1, r2, r3, r4, r6])
noncomputable def k94 : List Known := [rE p94 0 r1, rE p94 1 r2, rE p94 2 r3, rE p94 3 r4, rE p94 4 r6, aE p94 a5]
theorem w94 (x y z : Int) : Way x y z b94 := ⟨p94, k94, fun z => fb (by kernel_rfl) (by kernel_rfl) rfl, runs_ok (by kernel_rfl), by kernel_rfl⟩
noncomputable def b95 : List Bool := [true, true, true, true, true, false, true, false, false]
noncomputable def p95 : AV := pOf (.fs 6 false [r0, r1, r2, r3, r4, r6])
noncomputable def k95 : List Known := [rE p95 0 r0, rE p95 1 r1, rE p95 2 r2, rE p95 3 r3, rE p95 4 r4, rE p95 5 r6, aE p95 a6]
theorem w95 (x y z : Int) : Way x y z b95 := ⟨p95, k95, fun z => fb (by kernel_rfl) (by kernel_rfl) rfl, runs_ok (by kernel_rfl), by kernel_rfl⟩
noncomputable def b96 : List Bool := [false, false, false, false, false, true, true, false, false]
noncomputable def p96 : AV := pOf (.fs 6 false [r5, r6])
noncomputable def k96 : List Known := [rE p96 0 r5, rE p96 1 r6, aE p96 a2]
theorem w96 (x y z : Int) : Way x y z b96 := ⟨p96, k96, fun z => fb (by kernel_rfl) (by kernel_rfl) rfl, runs_ok (by kernel_rfl), by kernel_rfl⟩
noncomputable def b97 : List Bool := [true, false, false, false, false, true, true, false, false]
noncomputable def p97 : AV := pOf (.fs 6 false [r0, r5, r6])
noncomputable def k97 : List Known := [rE p97 0 r0, rE p97 1 r5, rE p97 2 r6, aE p97 a3]
theorem w97 (x y z : Int) : Way x y z b97 := ⟨p97, k97, fun z => fb (by kernel_rfl) (by kernel_rfl) rfl, runs_ok (by kernel_rfl), by kernel_rfl⟩
noncomputable def b98 : List Bool := [false, true, false, false, false, true, true, false, false]
noncomputable def p98 : AV := pOf (.fs 6 false [r1, r5, r6])
noncomputable def k98 : List Known := [rE p98 0 r1, rE p98 1 r5, rE p98 2 r6, aE p98 a3]
theorem w98 (x y z : Int) : Way x y z b98 := ⟨p98, k98, fun z => fb (by kernel_rfl) (by kernel_rfl) rfl, runs_ok (by kernel_rfl), by kernel_rfl⟩
noncomputable def b99 : List Bool := [true, true, false, false, false, true, true, false, false]
noncomputable def p99 : AV := pOf (.fs 6 false [r0, r1, r5, r6])
noncomputable def k99 : List Known := [rE p99 0 r0, rE p99 1 r1, rE p99 2 r5, rE p99 3 r6, aE p99 a4]
theorem w99 (x y z : Int) : Way x y z b99 := ⟨p99, k99, fun z => fb (by kernel_rfl) (by kernel_rfl) rfl, runs_ok (by kernel_rfl), by kernel_rfl⟩
noncomputable def b100 : List Bool := [false, false, true, false, false, true, true, false, false]
noncomputable def p100 : AV := pOf (.fs 6 false [r2, r5, r6])
noncomputable def k100 : List Known := [rE p100 0 r2, rE p100 1 r5, rE p100 2 r6, aE p100 a3]
theorem w100 (x y z : Int) : Way x y z b100 := ⟨p100, k100, fun z => fb (by kernel_rfl) (by kernel_rfl) rfl, runs_ok (by kernel_rfl), by kernel_rfl⟩
noncomputable def b101 : List Bool := [true, false, true, false, false, true, true, false, false]
noncomputable def p101 : AV := pOf (.fs 6 false [r0, r2, r5, r6])
noncomputable def k101 : List Known := [rE p101 0 r0, rE p101 1 r2, rE p101 2 r5, rE p101 3 r6, aE p101 a4]
theorem w101 (x y z : Int) : Way x y z b101 := ⟨p101, k101, fun z => fb (by kernel_rfl) (by kernel_rfl) rfl, runs_ok (by kernel_rfl), by kernel_rfl⟩
noncomputable def b102 : List Bool := [false, true, true, false, false, true, true, false, false]
noncomputable def p102 : AV := pOf (.fs 6 false [r1, r2, r5, r6])
noncomputable def k102 : List Known := [rE p102 0 r1, rE p102 1 r2, rE p102 2 r5, rE p102 3 r6, aE p102 a4]
theorem w102 (x y z : Int) : Way x y z b102 := ⟨p102, k102, fun z => fb (by kernel_rfl) (by kernel_rfl) rfl, runs_ok (by kernel_rfl), by kernel_rfl⟩
end Go.Zev.Ob
