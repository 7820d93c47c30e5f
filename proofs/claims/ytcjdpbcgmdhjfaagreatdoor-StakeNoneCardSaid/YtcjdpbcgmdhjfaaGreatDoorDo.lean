import Derived.Test.YtcjdpbcgmdhjfaaGreatDoorDl
namespace Go.Proofs.YtcjdpbcgmdhjfaaGreatDoor
open Go.ChangeShapes Go.WideShapes Go.ChangeAt Go.RowKit
namespace StakeNone
theorem goes_ok : false = Rows.stakeNoneRow.goesBy Tryz.prog := by kernel_rfl
end StakeNone
end Go.Proofs.YtcjdpbcgmdhjfaaGreatDoor

