import Derived.Test.YthghfgcpdblgcaaGreatDoorRows
import Derived.LaidByTextLater
import Derived.SevenTiedAt
import Derived.KernelRfl
set_option maxRecDepth 1000000
namespace Go.Proofs.YthghfgcpdblgcaaGreatDoor
open Go
theorem th3 (os : Os) (tape : Tape) : (([("errors.errorType", Rows.laid_errors_errorType)] : List (String × DataW Unit)).filter fun x => x.2.handleName?.isSome).all (handleAtB Tryz.prog (varsWorld Tryz.prog 400 (varsId Tryz.prog) os tape).memory) = true := by kernel_rfl
end Go.Proofs.YthghfgcpdblgcaaGreatDoor
