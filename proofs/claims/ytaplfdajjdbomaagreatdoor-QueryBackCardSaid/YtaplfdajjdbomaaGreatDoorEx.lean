import Derived.Test.YtaplfdajjdbomaaGreatDoorEj
namespace Go.Proofs.YtaplfdajjdbomaaGreatDoor
open Go.ChangeShapes Go.WideShapes Go.ChangeAt Go.RowKit Go.Ax
namespace QueryBack
theorem goes_ok:false=Rows.queryBackRow.goesBy Tryz.prog:=(aji noGoes).symm
end QueryBack
end Go.Proofs.YtaplfdajjdbomaaGreatDoor
