/-
  Printed by facts.py: closed calls and their answers.
-/
import Derived.Test.YtkhhemkkgblgiaaGreatDoorK0
set_option maxRecDepth 20000
namespace Go.Zev.Pn
open Go Go.Zev Go.Proofs
theorem kq25 : goV Tryz.prog (cfg (memoL 51200 kl24)) (tab (memoL 51200 kl24)) 4000 11 [.agg [w126], .s 3 4410960] = some (w144) := by kernel_rfl
theorem kq26 : goV Tryz.prog (cfg (memoL 51200 kl25)) (tab (memoL 51200 kl25)) 4000 15 ka26 = some (.tup [.agg [w145], .i .i64 0, .i .i64 0]) := by kernel_rfl
theorem kq27 : goV Tryz.prog (cfg (memoL 51200 kl26)) (tab (memoL 51200 kl26)) 4000 11 [.agg [w145], .s 3 4410960] = some (w161) := by kernel_rfl
theorem kq28 : goV Tryz.prog (cfg (memoL 51200 kl27)) (tab (memoL 51200 kl27)) 4000 15 ka28 = some (.tup [.agg [w162], .i .i64 0, .i .i64 0]) := by kernel_rfl
theorem kq29 : goV Tryz.prog (cfg (memoL 51200 kl28)) (tab (memoL 51200 kl28)) 4000 11 [.agg [w162], .s 3 4410960] = some (w183) := by kernel_rfl
theorem kq30 : goV Tryz.prog (cfg (memoL 51200 kl29)) (tab (memoL 51200 kl29)) 4000 34 [.agg [w167]] = some (.tup [.agg [w187], .i .i64 0, .s 0 0]) := by kernel_rfl
theorem kq31 : goV Tryz.prog (cfg (memoL 17179920384 kl30)) (tab (memoL 17179920384 kl30)) 4000 34 [.agg [w172]] = some (.tup [.agg [w189], .i .i64 0, .s 0 0]) := by kernel_rfl
theorem kq32 : goV Tryz.prog (cfg (memoL 17179920384 kl31)) (tab (memoL 17179920384 kl31)) 4000 34 [.agg [w177]] = some (.tup [.agg [w191], .i .i64 0, .s 0 0]) := by kernel_rfl
theorem kq33 : goV Tryz.prog (cfg (memoL 17179920384 kl32)) (tab (memoL 17179920384 kl32)) 4000 34 [.agg [w182]] = some (.tup [.agg [w193], .i .i64 0, .s 0 0]) := by kernel_rfl
theorem kq34 : goV Tryz.prog (cfg (memoL 17179920384 kl33)) (tab (memoL 17179920384 kl33)) 4000 11 [.agg [w195], .s 3 4410960] = some (w208) := by kernel_rfl
theorem kq35 : goV Tryz.prog (cfg (memoL 17179920384 kl34)) (tab (memoL 17179920384 kl34)) 4000 15 ka35 = some (.tup [.agg [w209], .i .i64 0, .i .i64 0]) := by kernel_rfl
theorem kq36 : goV Tryz.prog (cfg (memoL 17179920384 kl35)) (tab (memoL 17179920384 kl35)) 4000 11 [.agg [w209], .s 3 4410960] = some (w222) := by kernel_rfl
theorem kq37 : goV Tryz.prog (cfg (memoL 17179920384 kl36)) (tab (memoL 17179920384 kl36)) 4000 15 ka37 = some (.tup [.agg [w223], .i .i64 0, .i .i64 0]) := by kernel_rfl
theorem kq38 : goV Tryz.prog (cfg (memoL 17179920384 kl37)) (tab (memoL 17179920384 kl37)) 4000 43 [.agg [w223]] = some (.tup [.agg [w226], .i .i64 0, .s 0 0]) := by kernel_rfl
theorem kq39 : goV Tryz.prog (cfg (memoL 8813272942592 kl38)) (tab (memoL 8813272942592 kl38)) 4000 11 [.agg [w223], .s 3 4410960] = some (w243) := by kernel_rfl
theorem kq40 : goV Tryz.prog (cfg (memoL 8813272942592 kl39)) (tab (memoL 8813272942592 kl39)) 4000 34 [.agg [w227]] = some (.tup [.agg [w246], .i .i64 0, .s 0 0]) := by kernel_rfl
theorem kq41 : goV Tryz.prog (cfg (memoL 8813272942592 kl40)) (tab (memoL 8813272942592 kl40)) 4000 34 [.agg [w228]] = some (.tup [.agg [w249], .i .i64 0, .s 0 0]) := by kernel_rfl
theorem kq42 : goV Tryz.prog (cfg (memoL 8813272942592 kl41)) (tab (memoL 8813272942592 kl41)) 4000 34 [.agg [w230]] = some (.tup [.agg [w251], .i .i64 0, .s 0 0]) := by kernel_rfl
theorem kq43 : goV Tryz.prog (cfg (memoL 8813272942592 kl42)) (tab (memoL 8813272942592 kl42)) 4000 34 [.agg [w231]] = some (.tup [.agg [w253], .i .i64 0, .s 0 0]) := by kernel_rfl
theorem kq44 : goV Tryz.prog (cfg (memoL 8813272942592 kl43)) (tab (memoL 8813272942592 kl43)) 4000 34 [.agg [w232]] = some (.tup [.agg [w255], .i .i64 0, .s 0 0]) := by kernel_rfl
theorem kq45 : goV Tryz.prog (cfg (memoL 8813272942592 kl44)) (tab (memoL 8813272942592 kl44)) 4000 34 [.agg [w234]] = some (.tup [.agg [w257], .i .i64 0, .s 0 0]) := by kernel_rfl
theorem kq46 : goV Tryz.prog (cfg (memoL 8813272942592 kl45)) (tab (memoL 8813272942592 kl45)) 4000 34 [.agg [w235]] = some (.tup [.agg [w259], .i .i64 0, .s 0 0]) := by kernel_rfl
theorem kq47 : goV Tryz.prog (cfg (memoL 8813272942592 kl46)) (tab (memoL 8813272942592 kl46)) 4000 34 [.agg [w236]] = some (.tup [.agg [w261], .i .i64 0, .s 0 0]) := by kernel_rfl
theorem kq48 : goV Tryz.prog (cfg (memoL 8813272942592 kl47)) (tab (memoL 8813272942592 kl47)) 4000 34 [.agg [w238]] = some (.tup [.agg [w263], .i .i64 0, .s 0 0]) := by kernel_rfl
theorem kq49 : goV Tryz.prog (cfg (memoL 8813272942592 kl48)) (tab (memoL 8813272942592 kl48)) 4000 34 [.agg [w239]] = some (.tup [.agg [w265], .i .i64 0, .s 0 0]) := by kernel_rfl
theorem kq50 : goV Tryz.prog (cfg (memoL 8813272942592 kl49)) (tab (memoL 8813272942592 kl49)) 4000 34 [.agg [w240]] = some (.tup [.agg [w267], .i .i64 0, .s 0 0]) := by kernel_rfl
theorem kq51 : goV Tryz.prog (cfg (memoL 8813272942592 kl50)) (tab (memoL 8813272942592 kl50)) 4000 34 [.agg [w242]] = some (.tup [.agg [w269], .i .i64 0, .s 0 0]) := by kernel_rfl
theorem kq52 : goV Tryz.prog (cfg (memoL 8813272942592 kl51)) (tab (memoL 8813272942592 kl51)) 4000 11 [.agg [w271], .s 3 4410960] = some (w280) := by kernel_rfl
end Go.Zev.Pn
