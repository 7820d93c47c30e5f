import Derived.Test.YtgnpflplfnlccaaGreatDoorEg
namespace Go.Proofs.YtgnpflplfnlccaaGreatDoor
open Go.ChangeShapes Go.WideShapes Go.ChangeAt Go.RowKit Go.Ax
namespace SnapshotKnown
theorem goes_ok : false = Rows.snapshotKnownRow.goesBy Tryz.prog := (goes_none noGoes).symm
end SnapshotKnown
end Go.Proofs.YtgnpflplfnlccaaGreatDoor

