import Derived.Test.YtnhpghifaafnkaaGreatDoorDz
namespace Go.Proofs.YtnhpghifaafnkaaGreatDoor
open Go.ChangeShapes Go.WideShapes Go.ChangeAt Go.RowKit Go.Ax
namespace EngineNone
theorem goes_ok : false = Rows.engineNoneRow.goesBy Tryz.prog := (goes_none noGoes).symm
end EngineNone
end Go.Proofs.YtnhpghifaafnkaaGreatDoor

