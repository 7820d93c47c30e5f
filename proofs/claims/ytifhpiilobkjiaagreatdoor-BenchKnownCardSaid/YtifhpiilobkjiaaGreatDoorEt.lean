import Derived.Test.YtifhpiilobkjiaaGreatDoorEf
namespace Go.Proofs.YtifhpiilobkjiaaGreatDoor
open Go.ChangeShapes Go.WideShapes Go.ChangeAt Go.RowKit Go.Ax
namespace BenchKnown
theorem goes_ok : false = Rows.benchKnownRow.goesBy Tryz.prog := (goes_none noGoes).symm
end BenchKnown
end Go.Proofs.YtifhpiilobkjiaaGreatDoor

