import Derived.Test.YthghfgcpdblgcaaGreatDoorRows
import Derived.LaidByTextLater
import Derived.SevenTiedAt
import Derived.KernelRfl
set_option maxRecDepth 1000000
namespace Go.Proofs.YthghfgcpdblgcaaGreatDoor
open Go
theorem tn : varsNamedLaterB Tryz.prog (varsId Tryz.prog) ([("errors.errorType", Rows.laid_errors_errorType)] : List (String × DataW Unit)) = true := by kernel_rfl
end Go.Proofs.YthghfgcpdblgcaaGreatDoor
