import Derived.Test.YthghfgcpdblgcaaGreatDoorEn
namespace Go.Proofs.YthghfgcpdblgcaaGreatDoor
open Go.ChangeShapes Go.WideShapes Go.ChangeAt Go.RowKit Go.Ax
namespace EngineKnown
theorem goes_ok : false = Rows.engineKnownRow.goesBy Tryz.prog := (goes_none noGoes).symm
end EngineKnown
end Go.Proofs.YthghfgcpdblgcaaGreatDoor
