import Derived.Test.YtgpfgjhbiehafaaGreatDoorRows
import Derived.LaidByTextLater
import Derived.SevenTiedAt
import Derived.Test.YtgpfgjhbiehafaaGreatDoorEc
import Derived.Test.YtgpfgjhbiehafaaGreatDoorEd
import Derived.Test.YtgpfgjhbiehafaaGreatDoorEe
import Derived.Test.YtgpfgjhbiehafaaGreatDoorEf
import Derived.Test.YtgpfgjhbiehafaaGreatDoorEg
import Derived.Test.YtgpfgjhbiehafaaGreatDoorEh
import Derived.Test.YtgpfgjhbiehafaaGreatDoorEi
import Derived.KernelRfl
set_option maxRecDepth 1000000
namespace Go.Proofs.YtgpfgjhbiehafaaGreatDoor
open Go
theorem tie:Tryz.prog.laidByTextLater [("errors.errorType",Rows.laid_errors_errorType),("internal/strconv.uint64pow10",Rows.laid_internal_strconv_uint64pow10),("math/bits.deBruijn32tab",Rows.laid_math_bits_deBruijn32tab),("math/bits.deBruijn64tab",Rows.laid_math_bits_deBruijn64tab)] [.handle,.data,.data,.data] true:=
 Program.laidByTextLater_by_run_h 400 8 tw1 tw2 tw3 tk tg tn td th1 th2 th3
theorem scriptLines_row_tie:Rows.scriptLinesRow.laidByTextAt .later Tryz.pinned [.handle,.data,.data,.data] true:=
 OpenClaim.laidByTextAt_later rfl rfl tie noOwnUnsafe
end Go.Proofs.YtgpfgjhbiehafaaGreatDoor
