import Derived.Test.YtmbpmgemhnholaaGreatDoorEj
namespace Go.Proofs.YtmbpmgemhnholaaGreatDoor
open Go.ChangeShapes Go.WideShapes Go.ChangeAt Go.RowKit Go.Ax
namespace SlashLost
theorem goes_ok : false = Rows.slashLostRow.goesBy Tryz.prog := (goes_none noGoes).symm
end SlashLost
end Go.Proofs.YtmbpmgemhnholaaGreatDoor

