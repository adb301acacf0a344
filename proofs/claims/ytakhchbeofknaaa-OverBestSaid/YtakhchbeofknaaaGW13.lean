/-
  Printed by ob.py: choices of heads; what is known of each; its ways.
-/
import Derived.Test.YtakhchbeofknaaaGF
set_option linter.unusedVariables false
set_option maxRecDepth 20000
namespace Go.Zev.Ob
open Go Go.Zev Go.Proofs
noncomputable def b197 : List Bool := [true, false, true, false, false, false, true, true, false]
noncomputable def p197 : AV := pOf (.fs 6 false [r0, r2, r6, r7])
noncomputable def k197 : List Known := [rE p197 0 r0, rE p197 1 r2, rE p197 2 r6, rE p197 3 r7, aE p197 a4]
theorem w197 (x y z : Int) : Way x y z b197 := ⟨p197, k197, fun z => fb (by kernel_rfl) (by kernel_rfl) rfl, runs_ok (by kernel_rfl), by kernel_rfl⟩
noncomputable def b198 : List Bool := [false, true, true, false, false, false, true, true, false]
noncomputable def p198 : AV := pOf (.fs 6 false [r1, r2, r6, r7])
noncomputable def k198 : List Known := [rE p198 0 r1, rE p198 1 r2, rE p198 2 r6, rE p198 3 r7, aE p198 a4]
theorem w198 (x y z : Int) : Way x y z b198 := ⟨p198, k198, fun z => fb (by kernel_rfl) (by kernel_rfl) rfl, runs_ok (by kernel_rfl), by kernel_rfl⟩
noncomputable def b199 : List Bool := [true, true, true, false, false, false, true, true, false]
noncomputable def p199 : AV := pOf (.fs 6 false [r0, r1, r2, r6, r7])
noncomputable def k199 : List Known := [rE p199 0 r0, rE p199 1 r1, rE p199 2 r2, rE p199 3 r6, rE p199 4 r7, aE p199 a5]
theorem w199 (x y z : Int) : Way x y z b199 := ⟨p199, k199, fun z => fb (by kernel_rfl) (by kernel_rfl) rfl, runs_ok (by kernel_rfl), by kernel_rfl⟩
noncomputable def b200 : List Bool := [false, false, false, true, false, false, true, true, false]
noncomputable def p200 : AV := pOf (.fs 6 false [r3, r6, r7])
noncomputable def k200 : List Known := [rE p200 0 r3, rE p200 1 r6, rE p200 2 r7, aE p200 a3]
theorem w200 (x y z : Int) : Way x y z b200 := ⟨p200, k200, fun z => fb (by kernel_rfl) (by kernel_rfl) rfl, runs_ok (by kernel_rfl), by kernel_rfl⟩
noncomputable def b201 : List Bool := [true, false, false, true, false, false, true, true, false]
noncomputable def p201 : AV := pOf (.fs 6 false [r0, r3, r6, r7])
noncomputable def k201 : List Known := [rE p201 0 r0, rE p201 1 r3, rE p201 2 r6, rE p201 3 r7, aE p201 a4]
theorem w201 (x y z : Int) : Way x y z b201 := ⟨p201, k201, fun z => fb (by kernel_rfl) (by kernel_rfl) rfl, runs_ok (by kernel_rfl), by kernel_rfl⟩
noncomputable def b202 : List Bool := [false, true, false, true, false, false, true, true, false]
noncomputable def p202 : AV := pOf (.fs 6 false [r1, r3, r6, r7])
noncomputable def k202 : List Known := [rE p202 0 r1, rE p202 1 r3, rE p202 2 r6, rE p202 3 r7, aE p202 a4]
theorem w202 (x y z : Int) : Way x y z b202 := ⟨p202, k202, fun z => fb (by kernel_rfl) (by kernel_rfl) rfl, runs_ok (by kernel_rfl), by kernel_rfl⟩
noncomputable def b203 : List Bool := [true, true, false, true, false, false, true, true, false]
noncomputable def p203 : AV := pOf (.fs 6 false [r0, r1, r3, r6, r7])
noncomputable def k203 : List Known := [rE p203 0 r0, rE p203 1 r1, rE p203 2 r3, rE p203 3 r6, rE p203 4 r7, aE p203 a5]
theorem w203 (x y z : Int) : Way x y z b203 := ⟨p203, k203, fun z => fb (by kernel_rfl) (by kernel_rfl) rfl, runs_ok (by kernel_rfl), by kernel_rfl⟩
noncomputable def b204 : List Bool := [false, false, true, true, false, false, true, true, false]
noncomputable def p204 : AV := pOf (.fs 6 false [r2, r3, r6, r7])
noncomputable def k204 : List Known := [rE p204 0 r2, rE p204 1 r3, rE p204 2 r6, rE p204 3 r7, aE p204 a4]
theorem w204 (x y z : Int) : Way x y z b204 := ⟨p204, k204, fun z => fb (by kernel_rfl) (by kernel_rfl) rfl, runs_ok (by kernel_rfl), by kernel_rfl⟩
noncomputable def b205 : List Bool := [true, false, true, true, false, false, true, true, false]
noncomputable def p205 : AV := pOf (.fs 6 false [r0, r2, r3, r6, r7])
noncomputable def k205 : List Known := [rE p205 0 r0, rE p205 1 r2, rE p205 2 r3, rE p205 3 r6, rE p205 4 r7, aE p205 a5]
theorem w205 (x y z : Int) : Way x y z b205 := ⟨p205, k205, fun z => fb (by kernel_rfl) (by kernel_rfl) rfl, runs_ok (by kernel_rfl), by kernel_rfl⟩
noncomputable def b206 : List Bool := [false, true, true, true, false, false, true, true, false]
noncomputable def p206 : AV := pOf (.fs 6 false [r1, r2, r3, r6, r7])
noncomputable def k206 : List Known := [rE p206 0 r1, rE p206 1 r2, rE p206 2 r3, rE p206 3 r6, rE p206 4 r7, aE p206 a5]
theorem w206 (x y z : Int) : Way x y z b206 := ⟨p206, k206, fun z => fb (by kernel_rfl) (by kernel_rfl) rfl, runs_ok (by kernel_rfl), by kernel_rfl⟩
noncomputable def b207 : List Bool := [true, true, true, true, false, false, true, true, false]
noncomputable def p207 : AV := pOf (.fs 6 false [r0, r1, r2, r3, r6, r7])
noncomputable def k207 : List Known := [rE p207 0 r0, rE p207 1 r1, rE p207 2 r2, rE p207 3 r3, rE p207 4 r6, rE p207 5 r7, aE p207 a6]
theorem w207 (x y z : Int) : Way x y z b207 := ⟨p207, k207, fun z => fb (by kernel_rfl) (by kernel_rfl) rfl, runs_ok (by kernel_rfl), by kernel_rfl⟩
noncomputable def b208 : List Bool := [false, false, false, false, true, false, true, true, false]
noncomputable def p208 : AV := pOf (.fs 6 false [r4, r6, r7])
noncomputable def k208 : List Known := [rE p208 0 r4, rE p208 1 r6, rE p208 2 r7, aE p208 a3]
theorem w208 (x y z : Int) : Way x y z b208 := ⟨p208, k208, fun z => fb (by kernel_rfl) (by kernel_rfl) rfl, runs_ok (by kernel_rfl), by kernel_rfl⟩
noncomputable def b209 : List Bool := [true, false, false, false, true, false, true, true, false]
noncomputable def p209 : AV := pOf (.fs 6 false [r0, r4, r6, r7])
noncomputable def k209 : List Known := [rE p209 0 r0, rE p209 1 r4, rE p209 2 r6, rE p209 3 r7, aE p209 a4]
theorem w209 (x y z : Int) : Way x y z b209 := ⟨p209, k209, fun z => fb (by kernel_rfl) (by kernel_rfl) rfl, runs_ok (by kernel_rfl), by kernel_rfl⟩
noncomputable def b210 : List Bool := [false, true, false, false, true, false, true, true, false]
noncomputable def p210 : AV := pOf (.fs 6 false [r1, r4, r6, r7])
noncomputable def k210 : List Known := [rE p210 0 r1, rE p210 1 r4, rE p210 2 r6, rE p210 3 r7, aE p210 a4]
theorem w210 (x y z : Int) : Way x y z b210 := ⟨p210, k210, fun z => fb (by kernel_rfl) (by kernel_rfl) rfl, runs_ok (by kernel_rfl), by kernel_rfl⟩
noncomputable def b211 : List Bool := [true, true, false, false, true, false, true, true, false]
noncomputable def p211 : AV := pOf (.fs 6 false [r0, r1, r4, r6, r7])
noncomputable def k211 : List Known := [rE p211 0 r0, rE p211 1 r1, rE p211 2 r4, rE p211 3 r6, rE p211 4 r7, aE p211 a5]
theorem w211 (x y z : Int) : Way x y z b211 := ⟨p211, k211, fun z => fb (by kernel_rfl) (by kernel_rfl) rfl, runs_ok (by kernel_rfl), by kernel_rfl⟩
end Go.Zev.Ob
