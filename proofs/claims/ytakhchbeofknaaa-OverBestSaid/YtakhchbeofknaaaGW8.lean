/-
  Printed by ob.py: choices of heads; what is known of each; its ways.
-/
import Derived.Test.YtakhchbeofknaaaGF
set_option linter.unusedVariables false
set_option maxRecDepth 20000
namespace Go.Zev.Ob
open Go Go.Zev Go.Proofs
noncomputable def b120 : List Bool := [false, false, false, true, true, true, true, false, false]
noncomputable def p120 : AV := pOf (.fs 6 false [r3, r4, r5, r6])
noncomputable def k120 : List Known := [rE p120 0 r3, rE p120 1 r4, rE p120 2 r5, rE p120 3 r6, aE p120 a4]
theorem w120 (x y z : Int) : Way x y z b120 := ⟨p120, k120, fun z => fb (by kernel_rfl) (by kernel_rfl) rfl, runs_ok (by kernel_rfl), by kernel_rfl⟩
noncomputable def b121 : List Bool := [true, false, false, true, true, true, true, false, false]
noncomputable def p121 : AV := pOf (.fs 6 false [r0, r3, r4, r5, r6])
noncomputable def k121 : List Known := [rE p121 0 r0, rE p121 1 r3, rE p121 2 r4, rE p121 3 r5, rE p121 4 r6, aE p121 a5]
theorem w121 (x y z : Int) : Way x y z b121 := ⟨p121, k121, fun z => fb (by kernel_rfl) (by kernel_rfl) rfl, runs_ok (by kernel_rfl), by kernel_rfl⟩
noncomputable def b122 : List Bool := [false, true, false, true, true, true, true, false, false]
noncomputable def p122 : AV := pOf (.fs 6 false [r1, r3, r4, r5, r6])
noncomputable def k122 : List Known := [rE p122 0 r1, rE p122 1 r3, rE p122 2 r4, rE p122 3 r5, rE p122 4 r6, aE p122 a5]
theorem w122 (x y z : Int) : Way x y z b122 := ⟨p122, k122, fun z => fb (by kernel_rfl) (by kernel_rfl) rfl, runs_ok (by kernel_rfl), by kernel_rfl⟩
noncomputable def b123 : List Bool := [true, true, false, true, true, true, true, false, false]
noncomputable def p123 : AV := pOf (.fs 6 false [r0, r1, r3, r4, r5, r6])
noncomputable def k123 : List Known := [rE p123 0 r0, rE p123 1 r1, rE p123 2 r3, rE p123 3 r4, rE p123 4 r5, rE p123 5 r6, aE p123 a6]
theorem w123 (x y z : Int) : Way x y z b123 := ⟨p123, k123, fun z => fb (by kernel_rfl) (by kernel_rfl) rfl, runs_ok (by kernel_rfl), by kernel_rfl⟩
noncomputable def b124 : List Bool := [false, false, true, true, true, true, true, false, false]
noncomputable def p124 : AV := pOf (.fs 6 false [r2, r3, r4, r5, r6])
noncomputable def k124 : List Known := [rE p124 0 r2, rE p124 1 r3, rE p124 2 r4, rE p124 3 r5, rE p124 4 r6, aE p124 a5]
theorem w124 (x y z : Int) : Way x y z b124 := ⟨p124, k124, fun z => fb (by kernel_rfl) (by kernel_rfl) rfl, runs_ok (by kernel_rfl), by kernel_rfl⟩
noncomputable def b125 : List Bool := [true, false, true, true, true, true, true, false, false]
noncomputable def p125 : AV := pOf (.fs 6 false [r0, r2, r3, r4, r5, r6])
noncomputable def k125 : List Known := [rE p125 0 r0, rE p125 1 r2, rE p125 2 r3, rE p125 3 r4, rE p125 4 r5, rE p125 5 r6, aE p125 a6]
theorem w125 (x y z : Int) : Way x y z b125 := ⟨p125, k125, fun z => fb (by kernel_rfl) (by kernel_rfl) rfl, runs_ok (by kernel_rfl), by kernel_rfl⟩
noncomputable def b126 : List Bool := [false, true, true, true, true, true, true, false, false]
noncomputable def p126 : AV := pOf (.fs 6 false [r1, r2, r3, r4, r5, r6])
noncomputable def k126 : List Known := [rE p126 0 r1, rE p126 1 r2, rE p126 2 r3, rE p126 3 r4, rE p126 4 r5, rE p126 5 r6, aE p126 a6]
theorem w126 (x y z : Int) : Way x y z b126 := ⟨p126, k126, fun z => fb (by kernel_rfl) (by kernel_rfl) rfl, runs_ok (by kernel_rfl), by kernel_rfl⟩
noncomputable def b127 : List Bool := [true, true, true, true, true, true, true, false, false]
noncomputable def p127 : AV := pOf (.fs 6 false [r0, r1, r2, r3, r4, r5, r6])
noncomputable def k127 : List Known := [rE p127 0 r0, rE p127 1 r1, rE p127 2 r2, rE p127 3 r3, rE p127 4 r4, rE p127 5 r5, rE p127 6 r6, aE p127 a7]
theorem w127 (x y z : Int) : Way x y z b127 := ⟨p127, k127, fun z => fb (by kernel_rfl) (by kernel_rfl) rfl, runs_ok (by kernel_rfl), by kernel_rfl⟩
noncomputable def b128 : List Bool := [false, false, false, false, false, false, false, true, false]
noncomputable def p128 : AV := pOf (.fs 6 false [r7])
noncomputable def k128 : List Known := [rE p128 0 r7, aE p128 a1]
theorem w128 (x y z : Int) : Way x y z b128 := ⟨p128, k128, fun z => fb (by kernel_rfl) (by kernel_rfl) rfl, runs_ok (by kernel_rfl), by kernel_rfl⟩
noncomputable def b129 : List Bool := [true, false, false, false, false, false, false, true, false]
noncomputable def p129 : AV := pOf (.fs 6 false [r0, r7])
noncomputable def k129 : List Known := [rE p129 0 r0, rE p129 1 r7, aE p129 a2]
theorem w129 (x y z : Int) : Way x y z b129 := ⟨p129, k129, fun z => fb (by kernel_rfl) (by kernel_rfl) rfl, runs_ok (by kernel_rfl), by kernel_rfl⟩
noncomputable def b130 : List Bool := [false, true, false, false, false, false, false, true, false]
noncomputable def p130 : AV := pOf (.fs 6 false [r1, r7])
noncomputable def k130 : List Known := [rE p130 0 r1, rE p130 1 r7, aE p130 a2]
theorem w130 (x y z : Int) : Way x y z b130 := ⟨p130, k130, fun z => fb (by kernel_rfl) (by kernel_rfl) rfl, runs_ok (by kernel_rfl), by kernel_rfl⟩
noncomputable def b131 : List Bool := [true, true, false, false, false, false, false, true, false]
noncomputable def p131 : AV := pOf (.fs 6 false [r0, r1, r7])
noncomputable def k131 : List Known := [rE p131 0 r0, rE p131 1 r1, rE p131 2 r7, aE p131 a3]
theorem w131 (x y z : Int) : Way x y z b131 := ⟨p131, k131, fun z => fb (by kernel_rfl) (by kernel_rfl) rfl, runs_ok (by kernel_rfl), by kernel_rfl⟩
noncomputable def b132 : List Bool := [false, false, true, false, false, false, false, true, false]
noncomputable def p132 : AV := pOf (.fs 6 false [r2, r7])
noncomputable def k132 : List Known := [rE p132 0 r2, rE p132 1 r7, aE p132 a2]
theorem w132 (x y z : Int) : Way x y z b132 := ⟨p132, k132, fun z => fb (by kernel_rfl) (by kernel_rfl) rfl, runs_ok (by kernel_rfl), by kernel_rfl⟩
end Go.Zev.Ob
