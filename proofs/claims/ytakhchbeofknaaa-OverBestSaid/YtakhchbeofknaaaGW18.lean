/-
  Printed by ob.py: choices of heads; what is known of each; its ways.
-/
import Derived.Test.YtakhchbeofknaaaGF
set_option linter.unusedVariables false
set_option maxRecDepth 20000
namespace Go.Zev.Ob
open Go Go.Zev Go.Proofs
noncomputable def b257 : List Bool := [true, false, false, false, false, false, false, false, true]
noncomputable def p257 : AV := pOf (.fs 6 false [r0, r8])
noncomputable def k257 : List Known := [rE p257 0 r0, rE p257 1 r8, aE p257 a2]
theorem w257 (x y z : Int) : Way x y z b257 := ⟨p257, k257, fun z => fb (by kernel_rfl) (by kernel_rfl) rfl, runs_ok (by kernel_rfl), by kernel_rfl⟩
noncomputable def b258 : List Bool := [false, true, false, false, false, false, false, false, true]
noncomputable def p258 : AV := pOf (.fs 6 false [r1, r8])
noncomputable def k258 : List Known := [rE p258 0 r1, rE p258 1 r8, aE p258 a2]
theorem w258 (x y z : Int) : Way x y z b258 := ⟨p258, k258, fun z => fb (by kernel_rfl) (by kernel_rfl) rfl, runs_ok (by kernel_rfl), by kernel_rfl⟩
noncomputable def b259 : List Bool := [true, true, false, false, false, false, false, false, true]
noncomputable def p259 : AV := pOf (.fs 6 false [r0, r1, r8])
noncomputable def k259 : List Known := [rE p259 0 r0, rE p259 1 r1, rE p259 2 r8, aE p259 a3]
theorem w259 (x y z : Int) : Way x y z b259 := ⟨p259, k259, fun z => fb (by kernel_rfl) (by kernel_rfl) rfl, runs_ok (by kernel_rfl), by kernel_rfl⟩
noncomputable def b260 : List Bool := [false, false, true, false, false, false, false, false, true]
noncomputable def p260 : AV := pOf (.fs 6 false [r2, r8])
noncomputable def k260 : List Known := [rE p260 0 r2, rE p260 1 r8, aE p260 a2]
theorem w260 (x y z : Int) : Way x y z b260 := ⟨p260, k260, fun z => fb (by kernel_rfl) (by kernel_rfl) rfl, runs_ok (by kernel_rfl), by kernel_rfl⟩
noncomputable def b261 : List Bool := [true, false, true, false, false, false, false, false, true]
noncomputable def p261 : AV := pOf (.fs 6 false [r0, r2, r8])
noncomputable def k261 : List Known := [rE p261 0 r0, rE p261 1 r2, rE p261 2 r8, aE p261 a3]
theorem w261 (x y z : Int) : Way x y z b261 := ⟨p261, k261, fun z => fb (by kernel_rfl) (by kernel_rfl) rfl, runs_ok (by kernel_rfl), by kernel_rfl⟩
noncomputable def b262 : List Bool := [false, true, true, false, false, false, false, false, true]
noncomputable def p262 : AV := pOf (.fs 6 false [r1, r2, r8])
noncomputable def k262 : List Known := [rE p262 0 r1, rE p262 1 r2, rE p262 2 r8, aE p262 a3]
theorem w262 (x y z : Int) : Way x y z b262 := ⟨p262, k262, fun z => fb (by kernel_rfl) (by kernel_rfl) rfl, runs_ok (by kernel_rfl), by kernel_rfl⟩
noncomputable def b263 : List Bool := [true, true, true, false, false, false, false, false, true]
noncomputable def p263 : AV := pOf (.fs 6 false [r0, r1, r2, r8])
noncomputable def k263 : List Known := [rE p263 0 r0, rE p263 1 r1, rE p263 2 r2, rE p263 3 r8, aE p263 a4]
theorem w263 (x y z : Int) : Way x y z b263 := ⟨p263, k263, fun z => fb (by kernel_rfl) (by kernel_rfl) rfl, runs_ok (by kernel_rfl), by kernel_rfl⟩
noncomputable def b264 : List Bool := [false, false, false, true, false, false, false, false, true]
noncomputable def p264 : AV := pOf (.fs 6 false [r3, r8])
noncomputable def k264 : List Known := [rE p264 0 r3, rE p264 1 r8, aE p264 a2]
theorem w264 (x y z : Int) : Way x y z b264 := ⟨p264, k264, fun z => fb (by kernel_rfl) (by kernel_rfl) rfl, runs_ok (by kernel_rfl), by kernel_rfl⟩
noncomputable def b265 : List Bool := [true, false, false, true, false, false, false, false, true]
noncomputable def p265 : AV := pOf (.fs 6 false [r0, r3, r8])
noncomputable def k265 : List Known := [rE p265 0 r0, rE p265 1 r3, rE p265 2 r8, aE p265 a3]
theorem w265 (x y z : Int) : Way x y z b265 := ⟨p265, k265, fun z => fb (by kernel_rfl) (by kernel_rfl) rfl, runs_ok (by kernel_rfl), by kernel_rfl⟩
noncomputable def b266 : List Bool := [false, true, false, true, false, false, false, false, true]
noncomputable def p266 : AV := pOf (.fs 6 false [r1, r3, r8])
noncomputable def k266 : List Known := [rE p266 0 r1, rE p266 1 r3, rE p266 2 r8, aE p266 a3]
theorem w266 (x y z : Int) : Way x y z b266 := ⟨p266, k266, fun z => fb (by kernel_rfl) (by kernel_rfl) rfl, runs_ok (by kernel_rfl), by kernel_rfl⟩
noncomputable def b267 : List Bool := [true, true, false, true, false, false, false, false, true]
noncomputable def p267 : AV := pOf (.fs 6 false [r0, r1, r3, r8])
noncomputable def k267 : List Known := [rE p267 0 r0, rE p267 1 r1, rE p267 2 r3, rE p267 3 r8, aE p267 a4]
theorem w267 (x y z : Int) : Way x y z b267 := ⟨p267, k267, fun z => fb (by kernel_rfl) (by kernel_rfl) rfl, runs_ok (by kernel_rfl), by kernel_rfl⟩
noncomputable def b268 : List Bool := [false, false, true, true, false, false, false, false, true]
noncomputable def p268 : AV := pOf (.fs 6 false [r2, r3, r8])
noncomputable def k268 : List Known := [rE p268 0 r2, rE p268 1 r3, rE p268 2 r8, aE p268 a3]
theorem w268 (x y z : Int) : Way x y z b268 := ⟨p268, k268, fun z => fb (by kernel_rfl) (by kernel_rfl) rfl, runs_ok (by kernel_rfl), by kernel_rfl⟩
noncomputable def b269 : List Bool := [true, false, true, true, false, false, false, false, true]
noncomputable def p269 : AV := pOf (.fs 6 false [r0, r2, r3, r8])
noncomputable def k269 : List Known := [rE p269 0 r0, rE p269 1 r2, rE p269 2 r3, rE p269 3 r8, aE p269 a4]
theorem w269 (x y z : Int) : Way x y z b269 := ⟨p269, k269, fun z => fb (by kernel_rfl) (by kernel_rfl) rfl, runs_ok (by kernel_rfl), by kernel_rfl⟩
noncomputable def b270 : List Bool := [false, true, true, true, false, false, false, false, true]
noncomputable def p270 : AV := pOf (.fs 6 false [r1, r2, r3, r8])
noncomputable def k270 : List Known := [rE p270 0 r1, rE p270 1 r2, rE p270 2 r3, rE p270 3 r8, aE p270 a4]
theorem w270 (x y z : Int) : Way x y z b270 := ⟨p270, k270, fun z => fb (by kernel_rfl) (by kernel_rfl) rfl, runs_ok (by kernel_rfl), by kernel_rfl⟩
noncomputable def b271 : List Bool := [true, true, true, true, false, false, false, false, true]
noncomputable def p271 : AV := pOf (.fs 6 false [r0, r1, r2, r3, r8])
noncomputable def k271 : List Known := [rE p271 0 r0, rE p271 1 r1, rE p271 2 r2, rE p271 3 r3, rE p271 4 r8, aE p271 a5]
theorem w271 (x y z : Int) : Way x y z b271 := ⟨p271, k271, fun z => fb (by kernel_rfl) (by kernel_rfl) rfl, runs_ok (by kernel_rfl), by kernel_rfl⟩
noncomputable def b272 : List Bool := [false, false, false, false, true, false, false, false, true]
noncomputable def p272 : AV := pOf (.fs 6 false [r4, r8])
noncomputable def k272 : List Known := [rE p272 0 r4, rE p272 1 r8, aE p272 a2]
theorem w272 (x y z : Int) : Way x y z b272 := ⟨p272, k272, fun z => fb (by kernel_rfl) (by kernel_rfl) rfl, runs_ok (by kernel_rfl), by kernel_rfl⟩
noncomputable def b273 : List Bool := [true, false, false, false, true, false, false, false, true]
noncomputable def p273 : AV := pOf (.fs 6 false [r0, r4, r8])
noncomputable def k273 : List Known := [rE p273 0 r0, rE p273 1 r4, rE p273 2 r8, aE p273 a3]
theorem w273 (x y z : Int) : Way x y z b273 := ⟨p273, k273, fun z => fb (by kernel_rfl) (by kernel_rfl) rfl, runs_ok (by kernel_rfl), by kernel_rfl⟩
noncomputable def b274 : List Bool := [false, true, false, false, true, false, false, false, true]
noncomputable def p274 : AV := pOf (.fs 6 false [r1, r4, r8])
noncomputable def k274 : List Known := [rE p274 0 r1, rE p274 1 r4, rE p274 2 r8, aE p274 a3]
theorem w274 (x y z : Int) : Way x y z b274 := ⟨p274, k274, fun z => fb (by kernel_rfl) (by kernel_rfl) rfl, runs_ok (by kernel_rfl), by kernel_rfl⟩
end Go.Zev.Ob
