/-
  Printed by ob.py: choices of heads; what is known of each; its ways.
-/
import Derived.Test.YtakhchbeofknaaaGF
set_option linter.unusedVariables false
set_option maxRecDepth 20000
namespace Go.Zev.Ob
open Go Go.Zev Go.Proofs
noncomputable def b307 : List Bool := [true, true, false, false, true, true, false, false, true]
noncomputable def p307 : AV := pOf (.fs 6 false [r0, r1, r4, r5, r8])
noncomputable def k307 : List Known := [rE p307 0 r0, rE p307 1 r1, rE p307 2 r4, rE p307 3 r5, rE p307 4 r8, aE p307 a5]
theorem w307 (x y z : Int) : Way x y z b307 := ⟨p307, k307, fun z => fb (by kernel_rfl) (by kernel_rfl) rfl, runs_ok (by kernel_rfl), by kernel_rfl⟩
noncomputable def b308 : List Bool := [false, false, true, false, true, true, false, false, true]
noncomputable def p308 : AV := pOf (.fs 6 false [r2, r4, r5, r8])
noncomputable def k308 : List Known := [rE p308 0 r2, rE p308 1 r4, rE p308 2 r5, rE p308 3 r8, aE p308 a4]
theorem w308 (x y z : Int) : Way x y z b308 := ⟨p308, k308, fun z => fb (by kernel_rfl) (by kernel_rfl) rfl, runs_ok (by kernel_rfl), by kernel_rfl⟩
noncomputable def b309 : List Bool := [true, false, true, false, true, true, false, false, true]
noncomputable def p309 : AV := pOf (.fs 6 false [r0, r2, r4, r5, r8])
noncomputable def k309 : List Known := [rE p309 0 r0, rE p309 1 r2, rE p309 2 r4, rE p309 3 r5, rE p309 4 r8, aE p309 a5]
theorem w309 (x y z : Int) : Way x y z b309 := ⟨p309, k309, fun z => fb (by kernel_rfl) (by kernel_rfl) rfl, runs_ok (by kernel_rfl), by kernel_rfl⟩
noncomputable def b310 : List Bool := [false, true, true, false, true, true, false, false, true]
noncomputable def p310 : AV := pOf (.fs 6 false [r1, r2, r4, r5, r8])
noncomputable def k310 : List Known := [rE p310 0 r1, rE p310 1 r2, rE p310 2 r4, rE p310 3 r5, rE p310 4 r8, aE p310 a5]
theorem w310 (x y z : Int) : Way x y z b310 := ⟨p310, k310, fun z => fb (by kernel_rfl) (by kernel_rfl) rfl, runs_ok (by kernel_rfl), by kernel_rfl⟩
noncomputable def b311 : List Bool := [true, true, true, false, true, true, false, false, true]
noncomputable def p311 : AV := pOf (.fs 6 false [r0, r1, r2, r4, r5, r8])
noncomputable def k311 : List Known := [rE p311 0 r0, rE p311 1 r1, rE p311 2 r2, rE p311 3 r4, rE p311 4 r5, rE p311 5 r8, aE p311 a6]
theorem w311 (x y z : Int) : Way x y z b311 := ⟨p311, k311, fun z => fb (by kernel_rfl) (by kernel_rfl) rfl, runs_ok (by kernel_rfl), by kernel_rfl⟩
noncomputable def b312 : List Bool := [false, false, false, true, true, true, false, false, true]
noncomputable def p312 : AV := pOf (.fs 6 false [r3, r4, r5, r8])
noncomputable def k312 : List Known := [rE p312 0 r3, rE p312 1 r4, rE p312 2 r5, rE p312 3 r8, aE p312 a4]
theorem w312 (x y z : Int) : Way x y z b312 := ⟨p312, k312, fun z => fb (by kernel_rfl) (by kernel_rfl) rfl, runs_ok (by kernel_rfl), by kernel_rfl⟩
noncomputable def b313 : List Bool := [true, false, false, true, true, true, false, false, true]
noncomputable def p313 : AV := pOf (.fs 6 false [r0, r3, r4, r5, r8])
noncomputable def k313 : List Known := [rE p313 0 r0, rE p313 1 r3, rE p313 2 r4, rE p313 3 r5, rE p313 4 r8, aE p313 a5]
theorem w313 (x y z : Int) : Way x y z b313 := ⟨p313, k313, fun z => fb (by kernel_rfl) (by kernel_rfl) rfl, runs_ok (by kernel_rfl), by kernel_rfl⟩
noncomputable def b314 : List Bool := [false, true, false, true, true, true, false, false, true]
noncomputable def p314 : AV := pOf (.fs 6 false [r1, r3, r4, r5, r8])
noncomputable def k314 : List Known := [rE p314 0 r1, rE p314 1 r3, rE p314 2 r4, rE p314 3 r5, rE p314 4 r8, aE p314 a5]
theorem w314 (x y z : Int) : Way x y z b314 := ⟨p314, k314, fun z => fb (by kernel_rfl) (by kernel_rfl) rfl, runs_ok (by kernel_rfl), by kernel_rfl⟩
noncomputable def b315 : List Bool := [true, true, false, true, true, true, false, false, true]
noncomputable def p315 : AV := pOf (.fs 6 false [r0, r1, r3, r4, r5, r8])
noncomputable def k315 : List Known := [rE p315 0 r0, rE p315 1 r1, rE p315 2 r3, rE p315 3 r4, rE p315 4 r5, rE p315 5 r8, aE p315 a6]
theorem w315 (x y z : Int) : Way x y z b315 := ⟨p315, k315, fun z => fb (by kernel_rfl) (by kernel_rfl) rfl, runs_ok (by kernel_rfl), by kernel_rfl⟩
noncomputable def b316 : List Bool := [false, false, true, true, true, true, false, false, true]
noncomputable def p316 : AV := pOf (.fs 6 false [r2, r3, r4, r5, r8])
noncomputable def k316 : List Known := [rE p316 0 r2, rE p316 1 r3, rE p316 2 r4, rE p316 3 r5, rE p316 4 r8, aE p316 a5]
theorem w316 (x y z : Int) : Way x y z b316 := ⟨p316, k316, fun z => fb (by kernel_rfl) (by kernel_rfl) rfl, runs_ok (by kernel_rfl), by kernel_rfl⟩
noncomputable def b317 : List Bool := [true, false, true, true, true, true, false, false, true]
noncomputable def p317 : AV := pOf (.fs 6 false [r0, r2, r3, r4, r5, r8])
noncomputable def k317 : List Known := [rE p317 0 r0, rE p317 1 r2, rE p317 2 r3, rE p317 3 r4, rE p317 4 r5, rE p317 5 r8, aE p317 a6]
theorem w317 (x y z : Int) : Way x y z b317 := ⟨p317, k317, fun z => fb (by kernel_rfl) (by kernel_rfl) rfl, runs_ok (by kernel_rfl), by kernel_rfl⟩
noncomputable def b318 : List Bool := [false, true, true, true, true, true, false, false, true]
noncomputable def p318 : AV := pOf (.fs 6 false [r1, r2, r3, r4, r5, r8])
noncomputable def k318 : List Known := [rE p318 0 r1, rE p318 1 r2, rE p318 2 r3, rE p318 3 r4, rE p318 4 r5, rE p318 5 r8, aE p318 a6]
theorem w318 (x y z : Int) : Way x y z b318 := ⟨p318, k318, fun z => fb (by kernel_rfl) (by kernel_rfl) rfl, runs_ok (by kernel_rfl), by kernel_rfl⟩
noncomputable def b319 : List Bool := [true, true, true, true, true, true, false, false, true]
noncomputable def p319 : AV := pOf (.fs 6 false [r0, r1, r2, r3, r4, r5, r8])
noncomputable def k319 : List Known := [rE p319 0 r0, rE p319 1 r1, rE p319 2 r2, rE p319 3 r3, rE p319 4 r4, rE p319 5 r5, rE p319 6 r8, aE p319 a7]
theorem w319 (x y z : Int) : Way x y z b319 := ⟨p319, k319, fun z => fb (by kernel_rfl) (by kernel_rfl) rfl, runs_ok (by kernel_rfl), by kernel_rfl⟩
end Go.Zev.Ob
