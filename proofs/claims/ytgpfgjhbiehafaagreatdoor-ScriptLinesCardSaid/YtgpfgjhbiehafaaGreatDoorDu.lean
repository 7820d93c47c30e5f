import Derived.Test.YtgpfgjhbiehafaaGreatDoorProg
import Derived.ProofKit
import Derived.KernelRfl
import Derived.JoinedCond
import Derived.Deep.DeepHandedRow
set_option maxRecDepth 1000000
namespace Go.Proofs.YtgpfgjhbiehafaaGreatDoor
open Go.ChangeShapes Go.WideShapes Go.ChangeAt Go.RowKit
theorem mayEnter_ok:Tryz.prog.mayEnter=true:=by kernel_rfl
end Go.Proofs.YtgpfgjhbiehafaaGreatDoor
