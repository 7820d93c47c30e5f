import Derived.Test.YtgpfgjhbiehafaaGreatDoorDw
namespace Go.Proofs.YtgpfgjhbiehafaaGreatDoor
open Go.ChangeShapes Go.WideShapes Go.ChangeAt Go.RowKit Go.Ax
namespace ScriptLines
theorem goes_ok:false=Rows.scriptLinesRow.goesBy Tryz.prog:=(abg noGoes).symm
end ScriptLines
end Go.Proofs.YtgpfgjhbiehafaaGreatDoor
