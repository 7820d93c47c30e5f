import Derived.Test.YthghfgcpdblgcaaGreatDoorRows
import Derived.LaidByTextLater
import Derived.SevenTiedAt
import Derived.KernelRfl
set_option maxRecDepth 1000000
namespace Go.Proofs.YthghfgcpdblgcaaGreatDoor
open Go
theorem tk : (([("errors.errorType", Rows.laid_errors_errorType)] : List (String × DataW Unit)).map fun x => Tryz.prog.kindOfLater x.1) = ([.handle] : List LaidKind).map some := by kernel_rfl
theorem tg : (Tryz.prog.funcNamed "gosem.cut.vars").isSome = true := by kernel_rfl
end Go.Proofs.YthghfgcpdblgcaaGreatDoor
