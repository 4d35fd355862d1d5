/- Part 41 of the proof. -/
import Derived.Test.YtmaaepdecdhmnaaGreatDoorRows
import Derived.LaidByTextLater
import Derived.SevenTiedAt
import Derived.KernelRfl
section
open Go
namespace Go.Proofs.YtmaaepdecdhmnaaGreatDoor
set_option maxRecDepth 100000
theorem tw:Tryz.prog.worded (varsWordLater true)=true:=by kernel_rfl
theorem tw2:Tryz.prog.worded (varsWordLater !true)=false:=by kernel_rfl
theorem qJq:Tryz.prog.worded rootWordLater=true:=by kernel_rfl
theorem tk:Rows.limitAllowsRow.laid.map (fun x=>Tryz.prog.kindOfLater x.1)=([.data,.data,.data,.data,.sentinel,.sentinel,.listed,.data]:List LaidKind).map some:=by kernel_rfl
theorem tg:(Tryz.prog.funcNamed "gosem.cut.vars").isSome=true:=by kernel_rfl
theorem tp:(Rows.limitAllowsRow.laid.all fun x=>x.2.handleName?.isNone)=true:=by kernel_rfl
theorem qD1:Tryz.prog.headLifts.contains "ownunsafe" = false:=by kernel_rfl
end Go.Proofs.YtmaaepdecdhmnaaGreatDoor
end
