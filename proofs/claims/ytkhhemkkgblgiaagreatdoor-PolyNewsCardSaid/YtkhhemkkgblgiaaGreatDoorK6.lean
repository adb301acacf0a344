/-
  Printed by facts.py: closed calls and their answers.
-/
import Derived.Test.YtkhhemkkgblgiaaGreatDoorK0
set_option maxRecDepth 20000
namespace Go.Zev.Pn
open Go Go.Zev Go.Proofs
theorem kq137 : goV Tryz.prog (cfg (memoL 8813272942592 kl136)) (tab (memoL 8813272942592 kl136)) 4000 43 [.agg [w538]] = some (.tup [.agg [w540], .i .i64 0, .s 0 0]) := by kernel_rfl
theorem kq138 : goV Tryz.prog (cfg (memoL 8813272942592 kl137)) (tab (memoL 8813272942592 kl137)) 4000 34 [.agg [w541]] = some (.tup [.agg [w543], .i .i64 0, .s 0 0]) := by kernel_rfl
theorem kq139 : goV Tryz.prog (cfg (memoL 8813272942592 kl138)) (tab (memoL 8813272942592 kl138)) 4000 34 [.agg [w544]] = some (.tup [.agg [w546], .i .i64 0, .s 0 0]) := by kernel_rfl
theorem kq140 : goV Tryz.prog (cfg (memoL 8813272942592 kl139)) (tab (memoL 8813272942592 kl139)) 4000 34 [.agg [w547]] = some (.tup [.agg [w549], .i .i64 0, .s 0 0]) := by kernel_rfl
theorem kq141 : goV Tryz.prog (cfg (memoL 8813272942592 kl140)) (tab (memoL 8813272942592 kl140)) 4000 34 [.agg [w551]] = some (.tup [.agg [w553], .i .i64 0, .s 0 0]) := by kernel_rfl
theorem kq142 : goV Tryz.prog (cfg (memoL 8813272942592 kl141)) (tab (memoL 8813272942592 kl141)) 4000 34 [.agg [w554]] = some (.tup [.agg [w556], .i .i64 0, .s 0 0]) := by kernel_rfl
theorem kq143 : goV Tryz.prog (cfg (memoL 8813272942592 kl142)) (tab (memoL 8813272942592 kl142)) 4000 34 [.agg [w557]] = some (.tup [.agg [w559], .i .i64 0, .s 0 0]) := by kernel_rfl
theorem kq144 : goV Tryz.prog (cfg (memoL 8813272942592 kl143)) (tab (memoL 8813272942592 kl143)) 4000 34 [.agg [w560]] = some (.tup [.agg [w562], .i .i64 0, .s 0 0]) := by kernel_rfl
theorem kq145 : goV Tryz.prog (cfg (memoL 8813272942592 kl144)) (tab (memoL 8813272942592 kl144)) 4000 34 [.agg [w564]] = some (.tup [.agg [w566], .i .i64 0, .s 0 0]) := by kernel_rfl
theorem kq146 : goV Tryz.prog (cfg (memoL 8813272942592 kl145)) (tab (memoL 8813272942592 kl145)) 4000 15 ka146 = some (.tup [.agg [w567], .i .i64 0, .i .i64 0]) := by kernel_rfl
theorem kq147 : goV Tryz.prog (cfg (memoL 8813272942592 kl146)) (tab (memoL 8813272942592 kl146)) 4000 43 [.agg [w567]] = some (.tup [.agg [w569], .i .i64 0, .s 0 0]) := by kernel_rfl
theorem kq148 : goV Tryz.prog (cfg (memoL 8813272942592 kl147)) (tab (memoL 8813272942592 kl147)) 4000 11 [.agg [w567], .s 3 4410960] = some (w585) := by kernel_rfl
theorem kq149 : goV Tryz.prog (cfg (memoL 8813272942592 kl148)) (tab (memoL 8813272942592 kl148)) 4000 34 [.agg [w570]] = some (.tup [.agg [w587], .i .i64 0, .s 0 0]) := by kernel_rfl
theorem kq150 : goV Tryz.prog (cfg (memoL 8813272942592 kl149)) (tab (memoL 8813272942592 kl149)) 4000 34 [.agg [w571]] = some (.tup [.agg [w589], .i .i64 0, .s 0 0]) := by kernel_rfl
theorem kq151 : goV Tryz.prog (cfg (memoL 8813272942592 kl150)) (tab (memoL 8813272942592 kl150)) 4000 34 [.agg [w572]] = some (.tup [.agg [w591], .i .i64 0, .s 0 0]) := by kernel_rfl
theorem kq152 : goV Tryz.prog (cfg (memoL 8813272942592 kl151)) (tab (memoL 8813272942592 kl151)) 4000 34 [.agg [w574]] = some (.tup [.agg [w593], .i .i64 0, .s 0 0]) := by kernel_rfl
theorem kq153 : goV Tryz.prog (cfg (memoL 8813272942592 kl152)) (tab (memoL 8813272942592 kl152)) 4000 34 [.agg [w575]] = some (.tup [.agg [w595], .i .i64 0, .s 0 0]) := by kernel_rfl
theorem kq154 : goV Tryz.prog (cfg (memoL 8813272942592 kl153)) (tab (memoL 8813272942592 kl153)) 4000 34 [.agg [w576]] = some (.tup [.agg [w597], .i .i64 0, .s 0 0]) := by kernel_rfl
theorem kq155 : goV Tryz.prog (cfg (memoL 8813272942592 kl154)) (tab (memoL 8813272942592 kl154)) 4000 34 [.agg [w577]] = some (.tup [.agg [w599], .i .i64 0, .s 0 0]) := by kernel_rfl
theorem kq156 : goV Tryz.prog (cfg (memoL 8813272942592 kl155)) (tab (memoL 8813272942592 kl155)) 4000 34 [.agg [w579]] = some (.tup [.agg [w601], .i .i64 0, .s 0 0]) := by kernel_rfl
theorem kq157 : goV Tryz.prog (cfg (memoL 8813272942592 kl156)) (tab (memoL 8813272942592 kl156)) 4000 34 [.agg [w580]] = some (.tup [.agg [w603], .i .i64 0, .s 0 0]) := by kernel_rfl
theorem kq158 : goV Tryz.prog (cfg (memoL 8813272942592 kl157)) (tab (memoL 8813272942592 kl157)) 4000 34 [.agg [w581]] = some (.tup [.agg [w605], .i .i64 0, .s 0 0]) := by kernel_rfl
theorem kq159 : goV Tryz.prog (cfg (memoL 8813272942592 kl158)) (tab (memoL 8813272942592 kl158)) 4000 34 [.agg [w582]] = some (.tup [.agg [w607], .i .i64 0, .s 0 0]) := by kernel_rfl
theorem kq160 : goV Tryz.prog (cfg (memoL 8813272942592 kl159)) (tab (memoL 8813272942592 kl159)) 4000 34 [.agg [w584]] = some (.tup [.agg [w609], .i .i64 0, .s 0 0]) := by kernel_rfl
theorem kq161 : goV Tryz.prog (cfg (memoL 8813272942592 kl160)) (tab (memoL 8813272942592 kl160)) 4000 15 ka161 = some (.tup [.agg [w610], .i .i64 0, .i .i64 0]) := by kernel_rfl
theorem kq162 : goV Tryz.prog (cfg (memoL 8813272942592 kl161)) (tab (memoL 8813272942592 kl161)) 4000 43 [.agg [w610]] = some (.tup [.agg [w611], .i .i64 0, .s 0 0]) := by kernel_rfl
theorem kq163 : goV Tryz.prog (cfg (memoL 8813272942592 kl162)) (tab (memoL 8813272942592 kl162)) 4000 11 [.agg [w610], .s 3 4410960] = some (w632) := by kernel_rfl
theorem kq164 : goV Tryz.prog (cfg (memoL 8813272942592 kl163)) (tab (memoL 8813272942592 kl163)) 4000 34 [.agg [w612]] = some (.tup [.agg [w633], .i .i64 0, .s 0 0]) := by kernel_rfl
end Go.Zev.Pn
