/-
  Printed by ob.py: choices of heads; what is known of each; its ways.
-/
import Derived.Test.YtakhchbeofknaaaGF
set_option linter.unusedVariables false
set_option maxRecDepth 20000
namespace Go.Zev.Ob
open Go Go.Zev Go.Proofs
noncomputable def b275 : List Bool := [true, true, false, false, true, false, false, false, true]
noncomputable def p275 : AV := pOf (.fs 6 false [r0, r1, r4, r8])
noncomputable def k275 : List Known := [rE p275 0 r0, rE p275 1 r1, rE p275 2 r4, rE p275 3 r8, aE p275 a4]
theorem w275 (x y z : Int) : Way x y z b275 := ⟨p275, k275, fun z => fb (by kernel_rfl) (by kernel_rfl) rfl, runs_ok (by kernel_rfl), by kernel_rfl⟩
noncomputable def b276 : List Bool := [false, false, true, false, true, false, false, false, true]
noncomputable def p276 : AV := pOf (.fs 6 false [r2, r4, r8])
noncomputable def k276 : List Known := [rE p276 0 r2, rE p276 1 r4, rE p276 2 r8, aE p276 a3]
theorem w276 (x y z : Int) : Way x y z b276 := ⟨p276, k276, fun z => fb (by kernel_rfl) (by kernel_rfl) rfl, runs_ok (by kernel_rfl), by kernel_rfl⟩
noncomputable def b277 : List Bool := [true, false, true, false, true, false, false, false, true]
noncomputable def p277 : AV := pOf (.fs 6 false [r0, r2, r4, r8])
noncomputable def k277 : List Known := [rE p277 0 r0, rE p277 1 r2, rE p277 2 r4, rE p277 3 r8, aE p277 a4]
theorem w277 (x y z : Int) : Way x y z b277 := ⟨p277, k277, fun z => fb (by kernel_rfl) (by kernel_rfl) rfl, runs_ok (by kernel_rfl), by kernel_rfl⟩
noncomputable def b278 : List Bool := [false, true, true, false, true, false, false, false, true]
noncomputable def p278 : AV := pOf (.fs 6 false [r1, r2, r4, r8])
noncomputable def k278 : List Known := [rE p278 0 r1, rE p278 1 r2, rE p278 2 r4, rE p278 3 r8, aE p278 a4]
theorem w278 (x y z : Int) : Way x y z b278 := ⟨p278, k278, fun z => fb (by kernel_rfl) (by kernel_rfl) rfl, runs_ok (by kernel_rfl), by kernel_rfl⟩
noncomputable def b279 : List Bool := [true, true, true, false, true, false, false, false, true]
noncomputable def p279 : AV := pOf (.fs 6 false [r0, r1, r2, r4, r8])
noncomputable def k279 : List Known := [rE p279 0 r0, rE p279 1 r1, rE p279 2 r2, rE p279 3 r4, rE p279 4 r8, aE p279 a5]
theorem w279 (x y z : Int) : Way x y z b279 := ⟨p279, k279, fun z => fb (by kernel_rfl) (by kernel_rfl) rfl, runs_ok (by kernel_rfl), by kernel_rfl⟩
noncomputable def b280 : List Bool := [false, false, false, true, true, false, false, false, true]
noncomputable def p280 : AV := pOf (.fs 6 false [r3, r4, r8])
noncomputable def k280 : List Known := [rE p280 0 r3, rE p280 1 r4, rE p280 2 r8, aE p280 a3]
theorem w280 (x y z : Int) : Way x y z b280 := ⟨p280, k280, fun z => fb (by kernel_rfl) (by kernel_rfl) rfl, runs_ok (by kernel_rfl), by kernel_rfl⟩
noncomputable def b281 : List Bool := [true, false, false, true, true, false, false, false, true]
noncomputable def p281 : AV := pOf (.fs 6 false [r0, r3, r4, r8])
noncomputable def k281 : List Known := [rE p281 0 r0, rE p281 1 r3, rE p281 2 r4, rE p281 3 r8, aE p281 a4]
theorem w281 (x y z : Int) : Way x y z b281 := ⟨p281, k281, fun z => fb (by kernel_rfl) (by kernel_rfl) rfl, runs_ok (by kernel_rfl), by kernel_rfl⟩
noncomputable def b282 : List Bool := [false, true, false, true, true, false, false, false, true]
noncomputable def p282 : AV := pOf (.fs 6 false [r1, r3, r4, r8])
noncomputable def k282 : List Known := [rE p282 0 r1, rE p282 1 r3, rE p282 2 r4, rE p282 3 r8, aE p282 a4]
theorem w282 (x y z : Int) : Way x y z b282 := ⟨p282, k282, fun z => fb (by kernel_rfl) (by kernel_rfl) rfl, runs_ok (by kernel_rfl), by kernel_rfl⟩
noncomputable def b283 : List Bool := [true, true, false, true, true, false, false, false, true]
noncomputable def p283 : AV := pOf (.fs 6 false [r0, r1, r3, r4, r8])
noncomputable def k283 : List Known := [rE p283 0 r0, rE p283 1 r1, rE p283 2 r3, rE p283 3 r4, rE p283 4 r8, aE p283 a5]
theorem w283 (x y z : Int) : Way x y z b283 := ⟨p283, k283, fun z => fb (by kernel_rfl) (by kernel_rfl) rfl, runs_ok (by kernel_rfl), by kernel_rfl⟩
noncomputable def b284 : List Bool := [false, false, true, true, true, false, false, false, true]
noncomputable def p284 : AV := pOf (.fs 6 false [r2, r3, r4, r8])
noncomputable def k284 : List Known := [rE p284 0 r2, rE p284 1 r3, rE p284 2 r4, rE p284 3 r8, aE p284 a4]
theorem w284 (x y z : Int) : Way x y z b284 := ⟨p284, k284, fun z => fb (by kernel_rfl) (by kernel_rfl) rfl, runs_ok (by kernel_rfl), by kernel_rfl⟩
noncomputable def b285 : List Bool := [true, false, true, true, true, false, false, false, true]
noncomputable def p285 : AV := pOf (.fs 6 false [r0, r2, r3, r4, r8])
noncomputable def k285 : List Known := [rE p285 0 r0, rE p285 1 r2, rE p285 2 r3, rE p285 3 r4, rE p285 4 r8, aE p285 a5]
theorem w285 (x y z : Int) : Way x y z b285 := ⟨p285, k285, fun z => fb (by kernel_rfl) (by kernel_rfl) rfl, runs_ok (by kernel_rfl), by kernel_rfl⟩
noncomputable def b286 : List Bool := [false, true, true, true, true, false, false, false, true]
noncomputable def p286 : AV := pOf (.fs 6 false [r1, r2, r3, r4, r8])
noncomputable def k286 : List Known := [rE p286 0 r1, rE p286 1 r2, rE p286 2 r3, rE p286 3 r4, rE p286 4 r8, aE p286 a5]
theorem w286 (x y z : Int) : Way x y z b286 := ⟨p286, k286, fun z => fb (by kernel_rfl) (by kernel_rfl) rfl, runs_ok (by kernel_rfl), by kernel_rfl⟩
noncomputable def b287 : List Bool := [true, true, true, true, true, false, false, false, true]
noncomputable def p287 : AV := pOf (.fs 6 false [r0, r1, r2, r3, r4, r8])
noncomputable def k287 : List Known := [rE p287 0 r0, rE p287 1 r1, rE p287 2 r2, rE p287 3 r3, rE p287 4 r4, rE p287 5 r8, aE p287 a6]
theorem w287 (x y z : Int) : Way x y z b287 := ⟨p287, k287, fun z => fb (by kernel_rfl) (by kernel_rfl) rfl, runs_ok (by kernel_rfl), by kernel_rfl⟩
noncomputable def b288 : List Bool := [false, false, false, false, false, true, false, false, true]
noncomputable def p288 : AV := pOf (.fs 6 false [r5, r8])
noncomputable def k288 : List Known := [rE p288 0 r5, rE p288 1 r8, aE p288 a2]
theorem w288 (x y z : Int) : Way x y z b288 := ⟨p288, k288, fun z => fb (by kernel_rfl) (by kernel_rfl) rfl, runs_ok (by kernel_rfl), by kernel_rfl⟩
noncomputable def b289 : List Bool := [true, false, false, false, false, true, false, false, true]
noncomputable def p289 : AV := pOf (.fs 6 false [r0, r5, r8])
noncomputable def k289 : List Known := [rE p289 0 r0, rE p289 1 r5, rE p289 2 r8, aE p289 a3]
theorem w289 (x y z : Int) : Way x y z b289 := ⟨p289, k289, fun z => fb (by kernel_rfl) (by kernel_rfl) rfl, runs_ok (by kernel_rfl), by kernel_rfl⟩
noncomputable def b290 : List Bool := [false, true, false, false, false, true, false, false, true]
noncomputable def p290 : AV := pOf (.fs 6 false [r1, r5, r8])
noncomputable def k290 : List Known := [rE p290 0 r1, rE p290 1 r5, rE p290 2 r8, aE p290 a3]
theorem w290 (x y z : Int) : Way x y z b290 := ⟨p290, k290, fun z => fb (by kernel_rfl) (by kernel_rfl) rfl, runs_ok (by kernel_rfl), by kernel_rfl⟩
end Go.Zev.Ob
