/-
  Printed by facts.py: closed calls and their answers.
-/
import Derived.Test.YtkhhemkkgblgiaaGreatDoorK0
set_option maxRecDepth 20000
namespace Go.Zev.Pn
open Go Go.Zev Go.Proofs
theorem kq165 : goV Tryz.prog (cfg (memoL 8813272942592 kl164)) (tab (memoL 8813272942592 kl164)) 4000 34 [.agg [w613]] = some (.tup [.agg [w634], .i .i64 0, .s 0 0]) := by kernel_rfl
theorem kq166 : goV Tryz.prog (cfg (memoL 8813272942592 kl165)) (tab (memoL 8813272942592 kl165)) 4000 34 [.agg [w614]] = some (.tup [.agg [w635], .i .i64 0, .s 0 0]) := by kernel_rfl
theorem kq167 : goV Tryz.prog (cfg (memoL 8813272942592 kl166)) (tab (memoL 8813272942592 kl166)) 4000 34 [.agg [w616]] = some (.tup [.agg [w637], .i .i64 0, .s 0 0]) := by kernel_rfl
theorem kq168 : goV Tryz.prog (cfg (memoL 8813272942592 kl167)) (tab (memoL 8813272942592 kl167)) 4000 34 [.agg [w617]] = some (.tup [.agg [w638], .i .i64 0, .s 0 0]) := by kernel_rfl
theorem kq169 : goV Tryz.prog (cfg (memoL 8813272942592 kl168)) (tab (memoL 8813272942592 kl168)) 4000 34 [.agg [w618]] = some (.tup [.agg [w639], .i .i64 0, .s 0 0]) := by kernel_rfl
theorem kq170 : goV Tryz.prog (cfg (memoL 8813272942592 kl169)) (tab (memoL 8813272942592 kl169)) 4000 34 [.agg [w619]] = some (.tup [.agg [w640], .i .i64 0, .s 0 0]) := by kernel_rfl
theorem kq171 : goV Tryz.prog (cfg (memoL 8813272942592 kl170)) (tab (memoL 8813272942592 kl170)) 4000 34 [.agg [w621]] = some (.tup [.agg [w642], .i .i64 0, .s 0 0]) := by kernel_rfl
theorem kq172 : goV Tryz.prog (cfg (memoL 8813272942592 kl171)) (tab (memoL 8813272942592 kl171)) 4000 34 [.agg [w622]] = some (.tup [.agg [w643], .i .i64 0, .s 0 0]) := by kernel_rfl
theorem kq173 : goV Tryz.prog (cfg (memoL 8813272942592 kl172)) (tab (memoL 8813272942592 kl172)) 4000 34 [.agg [w623]] = some (.tup [.agg [w644], .i .i64 0, .s 0 0]) := by kernel_rfl
theorem kq174 : goV Tryz.prog (cfg (memoL 8813272942592 kl173)) (tab (memoL 8813272942592 kl173)) 4000 34 [.agg [w624]] = some (.tup [.agg [w645], .i .i64 0, .s 0 0]) := by kernel_rfl
theorem kq175 : goV Tryz.prog (cfg (memoL 8813272942592 kl174)) (tab (memoL 8813272942592 kl174)) 4000 34 [.agg [w626]] = some (.tup [.agg [w647], .i .i64 0, .s 0 0]) := by kernel_rfl
theorem kq176 : goV Tryz.prog (cfg (memoL 8813272942592 kl175)) (tab (memoL 8813272942592 kl175)) 4000 34 [.agg [w627]] = some (.tup [.agg [w648], .i .i64 0, .s 0 0]) := by kernel_rfl
theorem kq177 : goV Tryz.prog (cfg (memoL 8813272942592 kl176)) (tab (memoL 8813272942592 kl176)) 4000 34 [.agg [w628]] = some (.tup [.agg [w649], .i .i64 0, .s 0 0]) := by kernel_rfl
theorem kq178 : goV Tryz.prog (cfg (memoL 8813272942592 kl177)) (tab (memoL 8813272942592 kl177)) 4000 34 [.agg [w629]] = some (.tup [.agg [w650], .i .i64 0, .s 0 0]) := by kernel_rfl
theorem kq179 : goV Tryz.prog (cfg (memoL 8813272942592 kl178)) (tab (memoL 8813272942592 kl178)) 4000 34 [.agg [w631]] = some (.tup [.agg [w652], .i .i64 0, .s 0 0]) := by kernel_rfl
theorem kq180 : goV Tryz.prog (cfg (memoL 8813272942592 kl179)) (tab (memoL 8813272942592 kl179)) 4000 11 [.agg [w653], .s 3 4410960] = some (w654) := by kernel_rfl
theorem kq181 : goV Tryz.prog (cfg (memoL 8813272942592 kl180)) (tab (memoL 8813272942592 kl180)) 4000 43 [.agg [w655]] = some (.tup [.agg [w657], .i .i64 0, .s 0 0]) := by kernel_rfl
theorem kq182 : goV Tryz.prog (cfg (memoL 8813272942592 kl181)) (tab (memoL 8813272942592 kl181)) 4000 34 [.agg [w658]] = some (.tup [.agg [w660], .i .i64 0, .s 0 0]) := by kernel_rfl
theorem kq183 : goV Tryz.prog (cfg (memoL 8813272942592 kl182)) (tab (memoL 8813272942592 kl182)) 4000 34 [.agg [w661]] = some (.tup [.agg [w663], .i .i64 0, .s 0 0]) := by kernel_rfl
theorem kq184 : goV Tryz.prog (cfg (memoL 8813272942592 kl183)) (tab (memoL 8813272942592 kl183)) 4000 34 [.agg [w665]] = some (.tup [.agg [w667], .i .i64 0, .s 0 0]) := by kernel_rfl
theorem kq185 : goV Tryz.prog (cfg (memoL 8813272942592 kl184)) (tab (memoL 8813272942592 kl184)) 4000 34 [.agg [w668]] = some (.tup [.agg [w670], .i .i64 0, .s 0 0]) := by kernel_rfl
theorem kq186 : goV Tryz.prog (cfg (memoL 8813272942592 kl185)) (tab (memoL 8813272942592 kl185)) 4000 34 [.agg [w671]] = some (.tup [.agg [w673], .i .i64 0, .s 0 0]) := by kernel_rfl
theorem kq187 : goV Tryz.prog (cfg (memoL 8813272942592 kl186)) (tab (memoL 8813272942592 kl186)) 4000 34 [.agg [w675]] = some (.tup [.agg [w677], .i .i64 0, .s 0 0]) := by kernel_rfl
theorem kq188 : goV Tryz.prog (cfg (memoL 8813272942592 kl187)) (tab (memoL 8813272942592 kl187)) 4000 15 ka188 = some (.tup [.agg [w678], .i .i64 0, .i .i64 0]) := by kernel_rfl
theorem kq189 : goV Tryz.prog (cfg (memoL 8813272942592 kl188)) (tab (memoL 8813272942592 kl188)) 4000 43 [.agg [w678]] = some (.tup [.agg [w680], .i .i64 0, .s 0 0]) := by kernel_rfl
theorem kq190 : goV Tryz.prog (cfg (memoL 8813272942592 kl189)) (tab (memoL 8813272942592 kl189)) 4000 34 [.agg [w681]] = some (.tup [.agg [w683], .i .i64 0, .s 0 0]) := by kernel_rfl
theorem kq191 : goV Tryz.prog (cfg (memoL 8813272942592 kl190)) (tab (memoL 8813272942592 kl190)) 4000 34 [.agg [w684]] = some (.tup [.agg [w686], .i .i64 0, .s 0 0]) := by kernel_rfl
end Go.Zev.Pn
