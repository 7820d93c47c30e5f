import Derived.Test.YtaplfdajjdbomaaGreatDoorDv
namespace Go.Proofs.YtaplfdajjdbomaaGreatDoor
open Go.ChangeShapes Go.WideShapes Go.ChangeAt Go.RowKit Go.Ax
namespace QueryForms
theorem goes_ok:false=Rows.queryFormsRow.goesBy Tryz.prog:=(ahO noGoes).symm
end QueryForms
end Go.Proofs.YtaplfdajjdbomaaGreatDoor
