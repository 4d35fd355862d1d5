/- Part 30 of the proof: CbTi25Ea. -/
import Derived.Test.YtkijgkjjbanipaaGreatDoorRows
import Derived.LaidByTextLater
import Derived.SevenTiedAt
import Derived.KernelRfl
set_option linter.all false
open Go
namespace Go.Proofs.YtkijgkjjbanipaaGreatDoor
set_option maxRecDepth 100000
theorem tw : Tryz.prog.worded (varsWordLater true) = true := by kernel_rfl
theorem tw2 : Tryz.prog.worded (varsWordLater !true) = false := by kernel_rfl
theorem troot : Tryz.prog.worded rootWordLater = true := by kernel_rfl
theorem tk : Rows.limitEnvRow.laid.map (fun x => Tryz.prog.kindOfLater x.1) = ([.data, .data, .data, .data, .sentinel, .sentinel, .listed, .data] : List LaidKind).map some := by kernel_rfl
theorem tg : (Tryz.prog.funcNamed "gosem.cut.vars").isSome = true := by kernel_rfl
theorem tp : (Rows.limitEnvRow.laid.all fun x => x.2.handleName?.isNone) = true := by kernel_rfl
theorem noUnsafe : Tryz.prog.headLifts.contains "ownunsafe" = false := by kernel_rfl
end Go.Proofs.YtkijgkjjbanipaaGreatDoor

