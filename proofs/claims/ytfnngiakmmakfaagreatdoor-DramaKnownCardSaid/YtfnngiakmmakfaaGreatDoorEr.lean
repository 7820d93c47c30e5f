import Derived.Test.YtfnngiakmmakfaaGreatDoorEh
namespace Go.Proofs.YtfnngiakmmakfaaGreatDoor
open Go.ChangeShapes Go.WideShapes Go.ChangeAt Go.RowKit Go.Ax
namespace DramaKnown
theorem goes_ok : false = Rows.dramaKnownRow.goesBy Tryz.prog := (goes_none noGoes).symm
end DramaKnown
end Go.Proofs.YtfnngiakmmakfaaGreatDoor

