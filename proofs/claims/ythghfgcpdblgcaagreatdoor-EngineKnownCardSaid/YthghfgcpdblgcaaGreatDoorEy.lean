import Derived.Test.YthghfgcpdblgcaaGreatDoorRows
import Derived.LaidByTextLater
import Derived.SevenTiedAt
import Derived.Test.YthghfgcpdblgcaaGreatDoorEr
import Derived.Test.YthghfgcpdblgcaaGreatDoorEs
import Derived.Test.YthghfgcpdblgcaaGreatDoorEt
import Derived.Test.YthghfgcpdblgcaaGreatDoorEu
import Derived.Test.YthghfgcpdblgcaaGreatDoorEv
import Derived.Test.YthghfgcpdblgcaaGreatDoorEw
import Derived.Test.YthghfgcpdblgcaaGreatDoorEx
import Derived.KernelRfl
set_option maxRecDepth 1000000
namespace Go.Proofs.YthghfgcpdblgcaaGreatDoor
open Go
theorem tie : Tryz.prog.laidByTextLater [("errors.errorType", Rows.laid_errors_errorType)] [.handle] true :=
  Program.laidByTextLater_by_run_h 400 8 tw1 tw2 tw3 tk tg tn td th1 th2 th3
theorem engineKnown_row_tie : Rows.engineKnownRow.laidByTextAt .later Tryz.pinned [.handle] true :=
  OpenClaim.laidByTextAt_later rfl rfl tie noOwnUnsafe
end Go.Proofs.YthghfgcpdblgcaaGreatDoor
