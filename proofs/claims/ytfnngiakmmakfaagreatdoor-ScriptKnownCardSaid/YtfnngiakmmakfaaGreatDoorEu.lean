import Derived.Test.YtfnngiakmmakfaaGreatDoorEk
namespace Go.Proofs.YtfnngiakmmakfaaGreatDoor
open Go.ChangeShapes Go.WideShapes Go.ChangeAt Go.RowKit Go.Ax
namespace ScriptKnown
theorem goes_ok : false = Rows.scriptKnownRow.goesBy Tryz.prog := (goes_none noGoes).symm
end ScriptKnown
end Go.Proofs.YtfnngiakmmakfaaGreatDoor

