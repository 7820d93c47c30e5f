import Derived.Test.YtaplfdajjdbomaaGreatDoorRows
import Derived.LaidByTextLater
import Derived.SevenTiedAt
import Derived.Test.YtaplfdajjdbomaaGreatDoorEb
import Derived.Test.YtaplfdajjdbomaaGreatDoorEc
import Derived.Test.YtaplfdajjdbomaaGreatDoorEd
import Derived.Test.YtaplfdajjdbomaaGreatDoorEe
import Derived.Test.YtaplfdajjdbomaaGreatDoorEf
import Derived.Test.YtaplfdajjdbomaaGreatDoorEg
import Derived.Test.YtaplfdajjdbomaaGreatDoorEh
import Derived.KernelRfl
set_option maxRecDepth 1000000
namespace Go.Proofs.YtaplfdajjdbomaaGreatDoor
open Go
theorem tie:Tryz.prog.laidByTextLater [("errors.errorType",Rows.laid_errors_errorType)] [.handle] true:=
 Program.laidByTextLater_by_run_h 400 8 tw1 tw2 tw3 tk tg tn td th1 th2 th3
theorem queryForms_row_tie:Rows.queryFormsRow.laidByTextAt .later Tryz.pinned [.handle] true:=
 OpenClaim.laidByTextAt_later rfl rfl tie noOwnUnsafe
end Go.Proofs.YtaplfdajjdbomaaGreatDoor
