/-
  Printed by facts.py: closed calls and their answers.
-/
import Derived.Test.YtkhhemkkgblgiaaGreatDoorK0
set_option maxRecDepth 20000
namespace Go.Zev.Pn
open Go Go.Zev Go.Proofs
theorem kq53 : goV Tryz.prog (cfg (memoL 8813272942592 kl52)) (tab (memoL 8813272942592 kl52)) 4000 15 ka53 = some (.tup [.agg [w281], .i .i64 0, .i .i64 0]) := by kernel_rfl
theorem kq54 : goV Tryz.prog (cfg (memoL 8813272942592 kl53)) (tab (memoL 8813272942592 kl53)) 4000 11 [.agg [w281], .s 3 4410960] = some (w291) := by kernel_rfl
theorem kq55 : goV Tryz.prog (cfg (memoL 8813272942592 kl54)) (tab (memoL 8813272942592 kl54)) 4000 15 ka55 = some (.tup [.agg [w292], .i .i64 0, .i .i64 0]) := by kernel_rfl
theorem kq56 : goV Tryz.prog (cfg (memoL 8813272942592 kl55)) (tab (memoL 8813272942592 kl55)) 4000 43 [.agg [w292]] = some (.tup [.agg [w294], .i .i64 0, .s 0 0]) := by kernel_rfl
theorem kq57 : goV Tryz.prog (cfg (memoL 8813272942592 kl56)) (tab (memoL 8813272942592 kl56)) 4000 34 [.agg [w295]] = some (.tup [.agg [w297], .i .i64 0, .s 0 0]) := by kernel_rfl
theorem kq58 : goV Tryz.prog (cfg (memoL 8813272942592 kl57)) (tab (memoL 8813272942592 kl57)) 4000 34 [.agg [w299]] = some (.tup [.agg [w301], .i .i64 0, .s 0 0]) := by kernel_rfl
theorem kq59 : goV Tryz.prog (cfg (memoL 8813272942592 kl58)) (tab (memoL 8813272942592 kl58)) 4000 34 [.agg [w302]] = some (.tup [.agg [w304], .i .i64 0, .s 0 0]) := by kernel_rfl
theorem kq60 : goV Tryz.prog (cfg (memoL 8813272942592 kl59)) (tab (memoL 8813272942592 kl59)) 4000 34 [.agg [w306]] = some (.tup [.agg [w308], .i .i64 0, .s 0 0]) := by kernel_rfl
theorem kq61 : goV Tryz.prog (cfg (memoL 8813272942592 kl60)) (tab (memoL 8813272942592 kl60)) 4000 34 [.agg [w309]] = some (.tup [.agg [w311], .i .i64 0, .s 0 0]) := by kernel_rfl
theorem kq62 : goV Tryz.prog (cfg (memoL 8813272942592 kl61)) (tab (memoL 8813272942592 kl61)) 4000 34 [.agg [w313]] = some (.tup [.agg [w315], .i .i64 0, .s 0 0]) := by kernel_rfl
theorem kq63 : goV Tryz.prog (cfg (memoL 8813272942592 kl62)) (tab (memoL 8813272942592 kl62)) 4000 34 [.agg [w316]] = some (.tup [.agg [w318], .i .i64 0, .s 0 0]) := by kernel_rfl
theorem kq64 : goV Tryz.prog (cfg (memoL 8813272942592 kl63)) (tab (memoL 8813272942592 kl63)) 4000 34 [.agg [w320]] = some (.tup [.agg [w322], .i .i64 0, .s 0 0]) := by kernel_rfl
theorem kq65 : goV Tryz.prog (cfg (memoL 8813272942592 kl64)) (tab (memoL 8813272942592 kl64)) 4000 11 [.agg [w324], .s 3 4410960] = some (kr65) := by kernel_rfl
theorem kq66 : goV Tryz.prog (cfg (memoL 8813272942592 kl65)) (tab (memoL 8813272942592 kl65)) 4000 15 ka66 = some (.tup [.agg [w329], .i .i64 0, .i .i64 0]) := by kernel_rfl
theorem kq67 : goV Tryz.prog (cfg (memoL 8813272942592 kl66)) (tab (memoL 8813272942592 kl66)) 4000 43 [.agg [w329]] = some (.tup [.agg [w331], .i .i64 0, .s 0 0]) := by kernel_rfl
theorem kq68 : goV Tryz.prog (cfg (memoL 8813272942592 kl67)) (tab (memoL 8813272942592 kl67)) 4000 34 [.agg [w333]] = some (.tup [.agg [w335], .i .i64 0, .s 0 0]) := by kernel_rfl
theorem kq69 : goV Tryz.prog (cfg (memoL 8813272942592 kl68)) (tab (memoL 8813272942592 kl68)) 4000 34 [.agg [w337]] = some (.tup [.agg [w339], .i .i64 0, .s 0 0]) := by kernel_rfl
theorem kq70 : goV Tryz.prog (cfg (memoL 8813272942592 kl69)) (tab (memoL 8813272942592 kl69)) 4000 34 [.agg [w341]] = some (.tup [.agg [w343], .i .i64 0, .s 0 0]) := by kernel_rfl
theorem kq71 : goV Tryz.prog (cfg (memoL 8813272942592 kl70)) (tab (memoL 8813272942592 kl70)) 4000 15 ka71 = some (.tup [.agg [w344], .i .i64 0, .i .i64 0]) := by kernel_rfl
theorem kq72 : goV Tryz.prog (cfg (memoL 8813272942592 kl71)) (tab (memoL 8813272942592 kl71)) 4000 43 [.agg [w344]] = some (.tup [.agg [w346], .i .i64 0, .s 0 0]) := by kernel_rfl
theorem kq73 : goV Tryz.prog (cfg (memoL 8813272942592 kl72)) (tab (memoL 8813272942592 kl72)) 4000 34 [.agg [w348]] = some (.tup [.agg [w350], .i .i64 0, .s 0 0]) := by kernel_rfl
theorem kq74 : goV Tryz.prog (cfg (memoL 8813272942592 kl73)) (tab (memoL 8813272942592 kl73)) 4000 34 [.agg [w352]] = some (.tup [.agg [w354], .i .i64 0, .s 0 0]) := by kernel_rfl
theorem kq75 : goV Tryz.prog (cfg (memoL 8813272942592 kl74)) (tab (memoL 8813272942592 kl74)) 4000 34 [.agg [w356]] = some (.tup [.agg [w358], .i .i64 0, .s 0 0]) := by kernel_rfl
theorem kq76 : goV Tryz.prog (cfg (memoL 8813272942592 kl75)) (tab (memoL 8813272942592 kl75)) 4000 34 [.agg [w360]] = some (.tup [.agg [w362], .i .i64 0, .s 0 0]) := by kernel_rfl
theorem kq77 : goV Tryz.prog (cfg (memoL 8813272942592 kl76)) (tab (memoL 8813272942592 kl76)) 4000 11 [.agg [w365], .s 3 4410960] = some (.nsl) := by kernel_rfl
theorem kq78 : goV Tryz.prog (cfg (memoL 8813272942592 kl77)) (tab (memoL 8813272942592 kl77)) 4000 15 ka78 = some (.tup [.agg [w367], .i .i64 0, .i .i64 0]) := by kernel_rfl
theorem kq79 : goV Tryz.prog (cfg (memoL 8813272942592 kl78)) (tab (memoL 8813272942592 kl78)) 4000 43 [.agg [w367]] = some (.tup [.agg [w369], .i .i64 0, .s 0 0]) := by kernel_rfl
theorem kq80 : goV Tryz.prog (cfg (memoL 8813272942592 kl79)) (tab (memoL 8813272942592 kl79)) 4000 15 ka80 = some (.tup [.agg [w371], .i .i64 0, .i .i64 0]) := by kernel_rfl
theorem kq81 : goV Tryz.prog (cfg (memoL 8813272942592 kl80)) (tab (memoL 8813272942592 kl80)) 4000 43 [.agg [w371]] = some (.tup [.agg [w373], .i .i64 0, .s 0 0]) := by kernel_rfl
end Go.Zev.Pn
