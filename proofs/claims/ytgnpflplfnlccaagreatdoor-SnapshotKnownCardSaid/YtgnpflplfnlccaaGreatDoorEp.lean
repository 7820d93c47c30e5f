import Derived.Test.YtgnpflplfnlccaaGreatDoorRows
import Derived.LaidByTextLater
import Derived.SevenTiedAt
import Derived.Test.YtgnpflplfnlccaaGreatDoorEl
import Derived.Test.YtgnpflplfnlccaaGreatDoorEm
import Derived.Test.YtgnpflplfnlccaaGreatDoorEn
import Derived.Test.YtgnpflplfnlccaaGreatDoorEo
set_option maxRecDepth 1000000
namespace Go.Proofs.YtgnpflplfnlccaaGreatDoor
open Go
theorem tie : Tryz.prog.laidByTextLater [("errors.errorType", Rows.laid_errors_errorType)] [.handle] true :=
  Program.laidByTextLater_by_run_h 400 8 tw1 tw2 tw3 tk tg tn td th1 th2 th3
theorem snapshotKnown_row_tie : Rows.snapshotKnownRow.laidByTextAt .later Tryz.pinned [.handle] true :=
  OpenClaim.laidByTextAt_later rfl rfl tie noOwnUnsafe
end Go.Proofs.YtgnpflplfnlccaaGreatDoor

