import Derived.Test.YtfnngiakmmakfaaGreatDoorRows
import Derived.LaidByTextLater
import Derived.SevenTiedAt
import Derived.Test.YtfnngiakmmakfaaGreatDoorEm
import Derived.Test.YtfnngiakmmakfaaGreatDoorEn
import Derived.Test.YtfnngiakmmakfaaGreatDoorEo
import Derived.Test.YtfnngiakmmakfaaGreatDoorEp
set_option maxRecDepth 1000000
namespace Go.Proofs.YtfnngiakmmakfaaGreatDoor
open Go
theorem tie : Tryz.prog.laidByTextLater [("errors.errorType", Rows.laid_errors_errorType)] [.handle] true :=
  Program.laidByTextLater_by_run_h 400 8 tw1 tw2 tw3 tk tg tn td th1 th2 th3
theorem dramaKnown_row_tie : Rows.dramaKnownRow.laidByTextAt .later Tryz.pinned [.handle] true :=
  OpenClaim.laidByTextAt_later rfl rfl tie noOwnUnsafe
end Go.Proofs.YtfnngiakmmakfaaGreatDoor

