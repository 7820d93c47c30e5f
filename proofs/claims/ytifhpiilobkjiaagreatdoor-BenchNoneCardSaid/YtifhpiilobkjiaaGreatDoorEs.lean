import Derived.Test.YtifhpiilobkjiaaGreatDoorEe
namespace Go.Proofs.YtifhpiilobkjiaaGreatDoor
open Go.ChangeShapes Go.WideShapes Go.ChangeAt Go.RowKit Go.Ax
namespace BenchNone
theorem goes_ok : false = Rows.benchNoneRow.goesBy Tryz.prog := (goes_none noGoes).symm
end BenchNone
end Go.Proofs.YtifhpiilobkjiaaGreatDoor

