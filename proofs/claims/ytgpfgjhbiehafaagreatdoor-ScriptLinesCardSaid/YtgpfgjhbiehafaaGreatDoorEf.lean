import Derived.Test.YtgpfgjhbiehafaaGreatDoorRows
import Derived.LaidByTextLater
import Derived.SevenTiedAt
import Derived.KernelRfl
set_option maxRecDepth 1000000
namespace Go.Proofs.YtgpfgjhbiehafaaGreatDoor
open Go
theorem td (os:Os)(tape:Tape):varsDone Tryz.prog 400 (varsId Tryz.prog) os tape=true:=by kernel_rfl
end Go.Proofs.YtgpfgjhbiehafaaGreatDoor
