import Derived.Test.YtnggdopkcjefjaaGreatDoorEh
namespace Go.Proofs.YtnggdopkcjefjaaGreatDoor
open Go.ChangeShapes Go.WideShapes Go.ChangeAt Go.RowKit Go.Ax
namespace QueryKnown
theorem goes_ok : false = Rows.queryKnownRow.goesBy Tryz.prog := (goes_none noGoes).symm
end QueryKnown
end Go.Proofs.YtnggdopkcjefjaaGreatDoor

