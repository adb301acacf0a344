/-
  Printed by ob.py: choices of heads; what is known of each; its ways.
-/
import Derived.Test.YtakhchbeofknaaaGF
set_option linter.unusedVariables false
set_option maxRecDepth 20000
namespace Go.Zev.Ob
open Go Go.Zev Go.Proofs
noncomputable def b103 : List Bool := [true, true, true, false, false, true, true, false, false]
noncomputable def p103 : AV := pOf (.fs 6 false [r0, r1, r2, r5, r6])
noncomputable def k103 : List Known := [rE p103 0 r0, rE p103 1 r1, rE p103 2 r2, rE p103 3 r5, rE p103 4 r6, aE p103 a5]
theorem w103 (x y z : Int) : Way x y z b103 := ⟨p103, k103, fun z => fb (by kernel_rfl) (by kernel_rfl) rfl, runs_ok (by kernel_rfl), by kernel_rfl⟩
noncomputable def b104 : List Bool := [false, false, false, true, false, true, true, false, false]
noncomputable def p104 : AV := pOf (.fs 6 false [r3, r5, r6])
noncomputable def k104 : List Known := [rE p104 0 r3, rE p104 1 r5, rE p104 2 r6, aE p104 a3]
theorem w104 (x y z : Int) : Way x y z b104 := ⟨p104, k104, fun z => fb (by kernel_rfl) (by kernel_rfl) rfl, runs_ok (by kernel_rfl), by kernel_rfl⟩
noncomputable def b105 : List Bool := [true, false, false, true, false, true, true, false, false]
noncomputable def p105 : AV := pOf (.fs 6 false [r0, r3, r5, r6])
noncomputable def k105 : List Known := [rE p105 0 r0, rE p105 1 r3, rE p105 2 r5, rE p105 3 r6, aE p105 a4]
theorem w105 (x y z : Int) : Way x y z b105 := ⟨p105, k105, fun z => fb (by kernel_rfl) (by kernel_rfl) rfl, runs_ok (by kernel_rfl), by kernel_rfl⟩
noncomputable def b106 : List Bool := [false, true, false, true, false, true, true, false, false]
noncomputable def p106 : AV := pOf (.fs 6 false [r1, r3, r5, r6])
noncomputable def k106 : List Known := [rE p106 0 r1, rE p106 1 r3, rE p106 2 r5, rE p106 3 r6, aE p106 a4]
theorem w106 (x y z : Int) : Way x y z b106 := ⟨p106, k106, fun z => fb (by kernel_rfl) (by kernel_rfl) rfl, runs_ok (by kernel_rfl), by kernel_rfl⟩
noncomputable def b107 : List Bool := [true, true, false, true, false, true, true, false, false]
noncomputable def p107 : AV := pOf (.fs 6 false [r0, r1, r3, r5, r6])
noncomputable def k107 : List Known := [rE p107 0 r0, rE p107 1 r1, rE p107 2 r3, rE p107 3 r5, rE p107 4 r6, aE p107 a5]
theorem w107 (x y z : Int) : Way x y z b107 := ⟨p107, k107, fun z => fb (by kernel_rfl) (by kernel_rfl) rfl, runs_ok (by kernel_rfl), by kernel_rfl⟩
noncomputable def b108 : List Bool := [false, false, true, true, false, true, true, false, false]
noncomputable def p108 : AV := pOf (.fs 6 false [r2, r3, r5, r6])
noncomputable def k108 : List Known := [rE p108 0 r2, rE p108 1 r3, rE p108 2 r5, rE p108 3 r6, aE p108 a4]
theorem w108 (x y z : Int) : Way x y z b108 := ⟨p108, k108, fun z => fb (by kernel_rfl) (by kernel_rfl) rfl, runs_ok (by kernel_rfl), by kernel_rfl⟩
noncomputable def b109 : List Bool := [true, false, true, true, false, true, true, false, false]
noncomputable def p109 : AV := pOf (.fs 6 false [r0, r2, r3, r5, r6])
noncomputable def k109 : List Known := [rE p109 0 r0, rE p109 1 r2, rE p109 2 r3, rE p109 3 r5, rE p109 4 r6, aE p109 a5]
theorem w109 (x y z : Int) : Way x y z b109 := ⟨p109, k109, fun z => fb (by kernel_rfl) (by kernel_rfl) rfl, runs_ok (by kernel_rfl), by kernel_rfl⟩
noncomputable def b110 : List Bool := [false, true, true, true, false, true, true, false, false]
noncomputable def p110 : AV := pOf (.fs 6 false [r1, r2, r3, r5, r6])
noncomputable def k110 : List Known := [rE p110 0 r1, rE p110 1 r2, rE p110 2 r3, rE p110 3 r5, rE p110 4 r6, aE p110 a5]
theorem w110 (x y z : Int) : Way x y z b110 := ⟨p110, k110, fun z => fb (by kernel_rfl) (by kernel_rfl) rfl, runs_ok (by kernel_rfl), by kernel_rfl⟩
noncomputable def b111 : List Bool := [true, true, true, true, false, true, true, false, false]
noncomputable def p111 : AV := pOf (.fs 6 false [r0, r1, r2, r3, r5, r6])
noncomputable def k111 : List Known := [rE p111 0 r0, rE p111 1 r1, rE p111 2 r2, rE p111 3 r3, rE p111 4 r5, rE p111 5 r6, aE p111 a6]
theorem w111 (x y z : Int) : Way x y z b111 := ⟨p111, k111, fun z => fb (by kernel_rfl) (by kernel_rfl) rfl, runs_ok (by kernel_rfl), by kernel_rfl⟩
noncomputable def b112 : List Bool := [false, false, false, false, true, true, true, false, false]
noncomputable def p112 : AV := pOf (.fs 6 false [r4, r5, r6])
noncomputable def k112 : List Known := [rE p112 0 r4, rE p112 1 r5, rE p112 2 r6, aE p112 a3]
theorem w112 (x y z : Int) : Way x y z b112 := ⟨p112, k112, fun z => fb (by kernel_rfl) (by kernel_rfl) rfl, runs_ok (by kernel_rfl), by kernel_rfl⟩
noncomputable def b113 : List Bool := [true, false, false, false, true, true, true, false, false]
noncomputable def p113 : AV := pOf (.fs 6 false [r0, r4, r5, r6])
noncomputable def k113 : List Known := [rE p113 0 r0, rE p113 1 r4, rE p113 2 r5, rE p113 3 r6, aE p113 a4]
theorem w113 (x y z : Int) : Way x y z b113 := ⟨p113, k113, fun z => fb (by kernel_rfl) (by kernel_rfl) rfl, runs_ok (by kernel_rfl), by kernel_rfl⟩
noncomputable def b114 : List Bool := [false, true, false, false, true, true, true, false, false]
noncomputable def p114 : AV := pOf (.fs 6 false [r1, r4, r5, r6])
noncomputable def k114 : List Known := [rE p114 0 r1, rE p114 1 r4, rE p114 2 r5, rE p114 3 r6, aE p114 a4]
theorem w114 (x y z : Int) : Way x y z b114 := ⟨p114, k114, fun z => fb (by kernel_rfl) (by kernel_rfl) rfl, runs_ok (by kernel_rfl), by kernel_rfl⟩
noncomputable def b115 : List Bool := [true, true, false, false, true, true, true, false, false]
noncomputable def p115 : AV := pOf (.fs 6 false [r0, r1, r4, r5, r6])
noncomputable def k115 : List Known := [rE p115 0 r0, rE p115 1 r1, rE p115 2 r4, rE p115 3 r5, rE p115 4 r6, aE p115 a5]
theorem w115 (x y z : Int) : Way x y z b115 := ⟨p115, k115, fun z => fb (by kernel_rfl) (by kernel_rfl) rfl, runs_ok (by kernel_rfl), by kernel_rfl⟩
noncomputable def b116 : List Bool := [false, false, true, false, true, true, true, false, false]
noncomputable def p116 : AV := pOf (.fs 6 false [r2, r4, r5, r6])
noncomputable def k116 : List Known := [rE p116 0 r2, rE p116 1 r4, rE p116 2 r5, rE p116 3 r6, aE p116 a4]
theorem w116 (x y z : Int) : Way x y z b116 := ⟨p116, k116, fun z => fb (by kernel_rfl) (by kernel_rfl) rfl, runs_ok (by kernel_rfl), by kernel_rfl⟩
noncomputable def b117 : List Bool := [true, false, true, false, true, true, true, false, false]
noncomputable def p117 : AV := pOf (.fs 6 false [r0, r2, r4, r5, r6])
noncomputable def k117 : List Known := [rE p117 0 r0, rE p117 1 r2, rE p117 2 r4, rE p117 3 r5, rE p117 4 r6, aE p117 a5]
theorem w117 (x y z : Int) : Way x y z b117 := ⟨p117, k117, fun z => fb (by kernel_rfl) (by kernel_rfl) rfl, runs_ok (by kernel_rfl), by kernel_rfl⟩
noncomputable def b118 : List Bool := [false, true, true, false, true, true, true, false, false]
noncomputable def p118 : AV := pOf (.fs 6 false [r1, r2, r4, r5, r6])
noncomputable def k118 : List Known := [rE p118 0 r1, rE p118 1 r2, rE p118 2 r4, rE p118 3 r5, rE p118 4 r6, aE p118 a5]
theorem w118 (x y z : Int) : Way x y z b118 := ⟨p118, k118, fun z => fb (by kernel_rfl) (by kernel_rfl) rfl, runs_ok (by kernel_rfl), by kernel_rfl⟩
noncomputable def b119 : List Bool := [true, true, true, false, true, true, true, false, false]
noncomputable def p119 : AV := pOf (.fs 6 false [r0, r1, r2, r4, r5, r6])
noncomputable def k119 : List Known := [rE p119 0 r0, rE p119 1 r1, rE p119 2 r2, rE p119 3 r4, rE p119 4 r5, rE p119 5 r6, aE p119 a6]
theorem w119 (x y z : Int) : Way x y z b119 := ⟨p119, k119, fun z => fb (by kernel_rfl) (by kernel_rfl) rfl, runs_ok (by kernel_rfl), by kernel_rfl⟩
end Go.Zev.Ob
