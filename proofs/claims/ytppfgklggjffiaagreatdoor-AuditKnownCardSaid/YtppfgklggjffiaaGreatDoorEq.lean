import Derived.Test.YtppfgklggjffiaaGreatDoorRows
import Derived.LaidByTextLater
import Derived.SevenTiedAt
import Derived.Test.YtppfgklggjffiaaGreatDoorEm
import Derived.Test.YtppfgklggjffiaaGreatDoorEn
import Derived.Test.YtppfgklggjffiaaGreatDoorEo
import Derived.Test.YtppfgklggjffiaaGreatDoorEp
set_option maxRecDepth 1000000
namespace Go.Proofs.YtppfgklggjffiaaGreatDoor
open Go
theorem tie : Tryz.prog.laidByTextLater [("errors.errorType", Rows.laid_errors_errorType)] [.handle] true :=
  Program.laidByTextLater_by_run_h 400 8 tw1 tw2 tw3 tk tg tn td th1 th2 th3
theorem auditKnown_row_tie : Rows.auditKnownRow.laidByTextAt .later Tryz.pinned [.handle] true :=
  OpenClaim.laidByTextAt_later rfl rfl tie noOwnUnsafe
end Go.Proofs.YtppfgklggjffiaaGreatDoor

